import PyProof.Rows.All
import HandS.Wide
import Wide.All
import OpenK.AllK
import Wide.FinOn
import HandS.ForMost
import HandS.TupAny
import HandS.TupLe
import HandS.IsInst
import HandS.Zip
import HandS.NoneIn
import HandS.SetFor
import HandS.SetTxt0
import HandS.Strs
import PyProof.Rows.SortShellAny
import KE.GoesMore
import KE.GoesEnum
import KE.GoesZip
import PyProof.EnumMake
import KE.SortData
import HandS.Conv
import HandS.More
import KE.KDictDisplayH
import HandS.Style
import HandS.TupMul
import HandS.RaiseMore
import HandS.Text
import HandS.WordsExc
import HandS.CallSlots
import HandS.ExcIs
import HandS.TryOnly
import HandS.ExcField
import KE.KExcIs
import HandS.ExcInit
import HandS.Flow
import HandS.ReplaceLit
import KE.KRevSl
import HandS.Deep
import PyProof.P3In
import PySem.Challenge.RW_wipeways_k60_same_and_twice
set_option Elab.async false
set_option linter.all false
set_option maxRecDepth 100000
set_option maxHeartbeats 4000000
namespace Dn
open PySem PySem.Spec PyProof.Rows L2
abbrev D := PyData
abbrev Frag := PySem.W.Frag
def Ex (H H' : Hp) : Prop := ∀ a o, H a = some o → H' a = some o
theorem Ex.refl (H : Hp) : Ex H H := fun _ _ h => h
theorem Ex.trans {H H1 H2 : Hp} (a : Ex H H1) (b : Ex H1 H2) : Ex H H2 := fun x o h => b x o (a x o h)
theorem ex_new {H : Hp} {p : Addr} {o : HO} (h : H p = none) : Ex H (upd H p o) := fun a u e => by
  by_cases hap : a = p
  · subst hap; rw [h] at e; cases e
  · rw [upd_ne hap]; exact e
theorem rd_ex {H H' : Hp} {a : Addr} {u : HO} (e : Ex H H') (h : Rd H a u) : Rd H' a u := by
  rcases h with h | ⟨o, h⟩
  · exact .inl (e a _ h)
  · exact .inr ⟨o, e a _ h⟩
/-- a tuple that is read: tracked as it is, or one of the module -/
def StT (K : Frag) (H : Hp) (a : Addr) (xs : List V) : Prop :=
  H a = some (.tup xs) ∨ ∃ (o : Obj) (its : Array Value) (n : Nat), K.lookup a = some o ∧ o.cls = .type "tuple" ∧ o.data = .seq its n ∧ its.size ≤ sizeLine ∧ Vals xs its.toList
theorem StT.sq {K : Frag} {H : Hp} {a : Addr} {xs : List V} (h : StT K H a xs) : SqT K H a xs := by
  rcases h with h | h
  · exact .inl (.inl h)
  · exact .inr h
theorem StT.of {K : Frag} {H : Hp} {a : Addr} {xs : List V} (h : H a = some (.tup xs)) : StT K H a xs := .inl h
theorem StT.ex {K : Frag} {H H' : Hp} {a : Addr} {xs : List V} (e : Ex H H') (h : StT K H a xs) : StT K H' a xs := by
  rcases h with h | h
  · exact .inl (e _ _ h)
  · exact .inr h
theorem sqT_ex {K : Frag} {H H' : Hp} {a : Addr} {xs : List V} (e : Ex H H') (h : StT K H a xs) : SqT K H' a xs := (h.ex e).sq
theorem sqL_ex {K : Frag} {H H' : Hp} {a : Addr} {xs : List V} (e : Ex H H') (h : SqL K H a xs) : SqL K H' a xs := by
  rcases h with h | h
  · exact .inl (rd_ex e h)
  · exact .inr h
mutual
inductive Rp (K : Frag) (H : Hp) : V → D → Prop where
  | non : Rp K H .non .none
  | bl (b : Bool) : Rp K H (.bl b) (.bool b)
  | int (i : Int) : Rp K H (.int i) (.int i)
  | str (x : Str) : Rp K H (.str x) (.str x)
  | lst {a : Addr} {xs : List V} {ds : List D} : SqL K H a xs → Rps K H xs ds → Rp K H (.ref a) (.list ds)
  | tup {a : Addr} {xs : List V} {ds : List D} : StT K H a xs → Rps K H xs ds → Rp K H (.ref a) (.tuple ds)
inductive Rps (K : Frag) (H : Hp) : List V → List D → Prop where
  | nil : Rps K H [] []
  | cons {v : V} {vs : List V} {d : D} {ds : List D} : Rp K H v d → Rps K H vs ds → Rps K H (v :: vs) (d :: ds)
end
section
variable {K : Frag} {H H' : Hp}
mutual
theorem Rp.ex (e : Ex H H') : ∀ {v : V} {d : D}, Rp K H v d → Rp K H' v d
  | _, _, .non => .non
  | _, _, .bl b => .bl b
  | _, _, .int i => .int i
  | _, _, .str x => .str x
  | _, _, .lst h t => .lst (sqL_ex e h) (Rps.ex e t)
  | _, _, .tup h t => .tup (h.ex e) (Rps.ex e t)
theorem Rps.ex (e : Ex H H') : ∀ {vs : List V} {ds : List D}, Rps K H vs ds → Rps K H' vs ds
  | _, _, .nil => .nil
  | _, _, .cons h t => .cons (Rp.ex e h) (Rps.ex e t)
end
mutual
theorem Rp.dp : ∀ {v : V} {d : D}, Rp K H v d → Dp K H v d
  | _, _, .non => .non
  | _, _, .bl b => .bl b
  | _, _, .int i => .int i
  | _, _, .str x => .str x
  | _, _, .lst h t => .lst h (Rps.dp t)
  | _, _, .tup h t => .tup h.sq (Rps.dp t)
theorem Rps.dp : ∀ {vs : List V} {ds : List D}, Rps K H vs ds → DpAll K H vs ds
  | _, _, .nil => .nil
  | _, _, .cons h t => .cons (Rp.dp h) (Rps.dp t)
end
theorem Rps.length : ∀ {vs : List V} {ds : List D}, Rps K H vs ds → vs.length = ds.length
  | _, _, .nil => rfl
  | _, _, .cons _ t => by rw [List.length_cons, List.length_cons, Rps.length t]
theorem Rps.get : ∀ {vs : List V} {ds : List D} {i : Nat} {d : D}, Rps K H vs ds → ds[i]? = some d → ∃ v, vs[i]? = some v ∧ Rp K H v d
  | _, _, i, d, .nil, e => by simp at e
  | _, _, 0, d, .cons h _, e => by simp at e; subst e; exact ⟨_, rfl, h⟩
  | _, _, i + 1, d, .cons _ t, e => by
    obtain ⟨v, h1, h2⟩ := Rps.get (i := i) t (by simpa using e)
    exact ⟨v, by simpa using h1, h2⟩
theorem Rps.append : ∀ {vs ws : List V} {ds es : List D}, Rps K H vs ds → Rps K H ws es → Rps K H (vs ++ ws) (ds ++ es)
  | _, _, _, _, .nil, s => s
  | _, _, _, _, .cons h t, s => .cons h (Rps.append t s)
theorem Rps.snoc {vs : List V} {ds : List D} {v : V} {d : D} (h : Rps K H vs ds) (r : Rp K H v d) : Rps K H (vs ++ [v]) (ds ++ [d]) := h.append (.cons r .nil)
theorem Rps.take : ∀ {vs : List V} {ds : List D} (n : Nat), Rps K H vs ds → Rps K H (vs.take n) (ds.take n)
  | _, _, 0, _ => .nil
  | _, _, _ + 1, .nil => .nil
  | _, _, n + 1, .cons h t => .cons h (Rps.take n t)
theorem Rps.drop : ∀ {vs : List V} {ds : List D} (n : Nat), Rps K H vs ds → Rps K H (vs.drop n) (ds.drop n)
  | _, _, 0, h => h
  | _, _, _ + 1, .nil => .nil
  | _, _, n + 1, .cons _ t => Rps.drop n t
theorem Rps.set {v : V} {d : D} (r : Rp K H v d) : ∀ {vs : List V} {ds : List D} (i : Nat), Rps K H vs ds → Rps K H (vs.set i v) (ds.set i d)
  | _, _, _, .nil => .nil
  | _, _, 0, .cons _ t => .cons r t
  | _, _, i + 1, .cons h t => .cons h (Rps.set r i t)
theorem Rps.erase : ∀ {vs : List V} {ds : List D} (i : Nat), Rps K H vs ds → Rps K H (vs.eraseIdx i) (ds.eraseIdx i)
  | _, _, _, .nil => .nil
  | _, _, 0, .cons _ t => t
  | _, _, i + 1, .cons h t => .cons h (Rps.erase i t)
theorem Rps.ints : ∀ {vs : List V} {ns : List Int}, Rps K H vs (ns.map PyData.int) → vs = ns.map V.int
  | _, [], .nil => rfl
  | _, n :: ns, .cons h t => by
    cases h
    rw [List.map_cons, Rps.ints t]
theorem Rps.of_ints : ∀ (ns : List Int), Rps K H (ns.map V.int) (ns.map PyData.int)
  | [] => .nil
  | n :: ns => .cons (.int n) (Rps.of_ints ns)
theorem Rps.strs : ∀ {vs : List V} {ns : List Str}, Rps K H vs (ns.map PyData.str) → vs = ns.map V.str
  | _, [], .nil => rfl
  | _, n :: ns, .cons h t => by
    cases h
    rw [List.map_cons, Rps.strs t]
theorem Rps.of_strs : ∀ (ns : List Str), Rps K H (ns.map V.str) (ns.map PyData.str)
  | [] => .nil
  | n :: ns => .cons (.str n) (Rps.of_strs ns)
end
inductive Sl where
  | no
  | sh (d : D)
  | ow (xs : List D)
abbrev Env := List Sl
def Sl.own : Sl → Bool
  | .ow _ => true
  | _ => false
structure Exn where
  cls : Str
  num : Option Int
inductive Res (α : Type) where
  | ok (a : α) (e : Env)
  | exc (x : Exn) (e : Env)
  | bad
abbrev M (α : Type) := Env → Res α
def mPure {α : Type} (a : α) : M α := fun e => .ok a e
def mBind {α β : Type} (m : M α) (f : α → M β) : M β := fun e => match m e with
  | .ok a e' => f a e'
  | .exc x e' => .exc x e'
  | .bad => .bad
def mOpt {α : Type} (o : Option α) : M α := fun e => match o with
  | some a => .ok a e
  | none => .bad
def OwR (K : Frag) (Hs : Hp) : Sl → HO → Prop
  | .ow xs, .lst vs => Rps K Hs vs xs
  | _, _ => False
theorem OwR.ex {K : Frag} {H H' : Hp} (e : Ex H H') : ∀ {s : Sl} {o : HO}, OwR K H s o → OwR K H' s o := fun {s o} h => by
  cases s with
  | ow xs =>
    cases o with
    | lst vs => exact Rps.ex e h
    | _ => exact h
  | _ => exact h
/-- pn: the slots that hold a caller's own lists (they stay); G: what others hold -/
structure Wd where
  pn : List (Nat × V)
  G : Hp
structure RE (K : Frag) (W : Wd) (Hs H : Hp) (σ : L2.St) (δ : Env) : Prop where
  ex : Ex Hs H
  fg : ∀ a o, W.G a = some o → H a = some o ∧ Hs a = none
  len : σ.length = δ.length
  sh : ∀ (i : Nat) (d : D), δ[i]? = some (Sl.sh d) → ∃ v : V, σ[i]? = some (some v) ∧ Rp K Hs v d
  ow : ∀ (i : Nat) (s : Sl), δ[i]? = some s → s.own = true → ∃ (a : Addr) (o : HO), σ[i]? = some (some (V.ref a)) ∧ H a = some o ∧ OwR K Hs s o ∧ Hs a = none ∧ W.G a = none
  ap : ∀ (i j : Nat) (s t : Sl) (a : Addr), δ[i]? = some s → s.own = true → δ[j]? = some t → t.own = true → σ[i]? = some (some (V.ref a)) → σ[j]? = some (some (V.ref a)) → i = j
  pin : ∀ p ∈ W.pn, σ[p.1]? = some (some p.2) ∧ ∃ s : Sl, δ[p.1]? = some s ∧ s.own = true
/-- new stable things, all of them fresh -/
structure Gr (Hs H Hs' H' : Hp) : Prop where
  s : Ex Hs Hs'
  h : Ex H H'
  i : Ex Hs' H'
  f : ∀ a, H a ≠ none → Hs' a = Hs a
theorem Gr.refl {Hs H : Hp} (e : Ex Hs H) : Gr Hs H Hs H := ⟨Ex.refl _, Ex.refl _, e, fun _ _ => rfl⟩
theorem ex_none {Hs H : Hp} {p : Addr} (e : Ex Hs H) (h : H p = none) : Hs p = none := by
  cases q : Hs p with
  | none => rfl
  | some o => rw [e p o q] at h; cases h
theorem Gr.new {Hs H : Hp} {p : Addr} {o : HO} (e : Ex Hs H) (h : H p = none) : Gr Hs H (upd Hs p o) (upd H p o) where
  s := ex_new (ex_none e h)
  h := ex_new h
  i := fun a u q => by
    by_cases hap : a = p
    · subst hap; rw [upd_same] at q ⊢; exact q
    · rw [upd_ne hap] at q ⊢; exact e a u q
  f := fun a ha => by
    have hap : a ≠ p := fun z => ha (z ▸ h)
    rw [upd_ne hap]
theorem Gr.trans {Hs H Hs1 H1 Hs2 H2 : Hp} (a : Gr Hs H Hs1 H1) (b : Gr Hs1 H1 Hs2 H2) : Gr Hs H Hs2 H2 where
  s := a.s.trans b.s
  h := a.h.trans b.h
  i := b.i
  f := fun x hx => by
    have h1 : H1 x ≠ none := by
      cases q : H x with
      | none => exact absurd q hx
      | some o => rw [a.h x o q]; simp
    rw [b.f x h1, a.f x hx]
section
variable {K : Frag} {W : Wd} {Hs H Hs' H' : Hp} {σ σ' : L2.St} {δ δ' : Env}
theorem RE.grow (r : RE K W Hs H σ δ) (g : Gr Hs H Hs' H') : RE K W Hs' H' σ δ where
  ex := g.i
  fg := fun a o q => by
    obtain ⟨h1, h2⟩ := r.fg a o q
    refine ⟨g.h a o h1, ?_⟩
    rw [g.f a (by rw [h1]; simp), h2]
  len := r.len
  sh := fun i d q => by
    obtain ⟨v, h1, h2⟩ := r.sh i d q
    exact ⟨v, h1, h2.ex g.s⟩
  ow := fun i s q w => by
    obtain ⟨a, o, h1, h2, h3, h4, h5⟩ := r.ow i s q w
    refine ⟨a, o, h1, g.h a o h2, h3.ex g.s, ?_, h5⟩
    rw [g.f a (by rw [h2]; simp), h4]
  ap := r.ap
  pin := r.pin
/-- a slot that says nothing may hold anything -/
theorem RE.sig (r : RE K W Hs H σ δ) (hl : σ'.length = σ.length) (h : ∀ (i : Nat) (s : Sl), δ[i]? = some s → s ≠ Sl.no → σ'[i]? = σ[i]?) : RE K W Hs H σ' δ where
  ex := r.ex
  fg := r.fg
  len := hl.trans r.len
  sh := fun i d q => by rw [h i _ q (by simp)]; exact r.sh i d q
  ow := fun i s q w => by rw [h i s q (by rintro rfl; cases w)]; exact r.ow i s q w
  ap := fun i j s t a h1 h2 h3 h4 h5 h6 => by
    rw [h i s h1 (by rintro rfl; cases h2)] at h5
    rw [h j t h3 (by rintro rfl; cases h4)] at h6
    exact r.ap i j s t a h1 h2 h3 h4 h5 h6
  pin := fun p hp => by
    obtain ⟨h1, s, h2, h3⟩ := r.pin p hp
    refine ⟨?_, s, h2, h3⟩
    rw [h p.1 s h2 (by rintro rfl; cases h3)]
    exact h1
/-- less is said -/
theorem RE.less (r : RE K W Hs H σ δ) (hl : δ'.length = δ.length) (h : ∀ (i : Nat) (s : Sl), δ'[i]? = some s → s = Sl.no ∨ δ[i]? = some s) (hp : ∀ p ∈ W.pn, δ'[p.1]? = δ[p.1]?) : RE K W Hs H σ δ' where
  ex := r.ex
  fg := r.fg
  len := r.len.trans hl.symm
  sh := fun i d q => by
    rcases h i _ q with z | z
    · cases z
    · exact r.sh i d z
  ow := fun i s q w => by
    rcases h i _ q with z | z
    · subst z; cases w
    · exact r.ow i s z w
  ap := fun i j s t a h1 h2 h3 h4 h5 h6 => by
    rcases h i _ h1 with z | z
    · subst z; cases h2
    · rcases h j _ h3 with z' | z'
      · subst z'; cases h4
      · exact r.ap i j s t a z h2 z' h4 h5 h6
  pin := fun p hpn => by
    obtain ⟨h1, s, h2, h3⟩ := r.pin p hpn
    exact ⟨h1, s, (hp p hpn).trans h2, h3⟩
end
theorem setGet {α : Type} {l : List α} {i j : Nat} {x s : α} (h : (l.set i x)[j]? = some s) : (j = i ∧ s = x) ∨ (j ≠ i ∧ l[j]? = some s) := by
  by_cases e : j = i
  · subst e
    by_cases hl : j < l.length
    · rw [List.getElem?_set_self hl] at h
      exact .inl ⟨rfl, (Option.some.inj h).symm⟩
    · rw [List.getElem?_eq_none (by simpa using hl)] at h; cases h
  · rw [List.getElem?_set_ne (Ne.symm e)] at h
    exact .inr ⟨e, h⟩
theorem set_lt {α : Type} {l : List α} {i : Nat} {x s : α} (h : (l.set i x)[i]? = some s) : i < l.length := by
  by_cases hl : i < l.length
  · exact hl
  · rw [List.getElem?_eq_none (by simpa using hl)] at h; cases h
/-- a fresh list that no name holds yet -/
structure FrO (K : Frag) (W : Wd) (Hs H : Hp) (σ : L2.St) (δ : Env) (a : Addr) (xs : List D) : Prop where
  at_ : ∃ vs, H a = some (.lst vs) ∧ Rps K Hs vs xs
  hs : Hs a = none
  g : W.G a = none
  ne : ∀ (i : Nat) (s : Sl), δ[i]? = some s → s.own = true → σ[i]? ≠ some (some (V.ref a))
section
variable {K : Frag} {W : Wd} {Hs H Hs' H' : Hp} {σ : L2.St} {δ : Env} {v : V} {d : D} {i : Nat} {a : Addr} {xs : List D}
theorem RE.setSh (r : RE K W Hs H σ δ) (h : Rp K Hs v d) (hi : i ∉ W.pn.map (·.1)) : RE K W Hs H (σ.set i (some v)) (δ.set i (.sh d)) where
  ex := r.ex
  fg := r.fg
  len := by rw [List.length_set, List.length_set]; exact r.len
  sh := fun j e q => by
    rcases setGet q with ⟨rfl, z⟩ | ⟨hj, z⟩
    · cases z
      have hl := set_lt q
      exact ⟨v, by rw [List.getElem?_set_self (by rw [r.len]; exact hl)], h⟩
    · rw [List.getElem?_set_ne (Ne.symm hj)]
      exact r.sh j e z
  ow := fun j s q w => by
    rcases setGet q with ⟨rfl, z⟩ | ⟨hj, z⟩
    · subst z; cases w
    · rw [List.getElem?_set_ne (Ne.symm hj)]
      exact r.ow j s z w
  ap := fun j k s t b h1 h2 h3 h4 h5 h6 => by
    rcases setGet h1 with ⟨rfl, z⟩ | ⟨hj, z⟩
    · subst z; cases h2
    · rcases setGet h3 with ⟨rfl, z'⟩ | ⟨hk, z'⟩
      · subst z'; cases h4
      · rw [List.getElem?_set_ne (Ne.symm hj)] at h5
        rw [List.getElem?_set_ne (Ne.symm hk)] at h6
        exact r.ap j k s t b z h2 z' h4 h5 h6
  pin := fun p hp => by
    have hne : i ≠ p.1 := fun z => hi (z ▸ List.mem_map_of_mem hp)
    rw [List.getElem?_set_ne hne, List.getElem?_set_ne hne]
    exact r.pin p hp
/-- the list of a slot is changed in place -/
theorem RE.write {s : Sl} {o : HO} (r : RE K W Hs H σ δ) {t : Sl} (ht : δ[i]? = some t) (hto : t.own = true) (ha : σ[i]? = some (some (V.ref a))) (hs : s.own = true) (ho : OwR K Hs s o) : RE K W Hs (upd H a o) σ (δ.set i s) := by
  obtain ⟨a', o', e1, e2, e3, e4, e5⟩ := r.ow i t ht hto
  have haa : a' = a := by rw [ha] at e1; cases e1; rfl
  subst haa
  have hil : i < δ.length := (List.getElem?_eq_some_iff.mp ht).1
  exact {
    ex := fun b u q => by
      have hb : b ≠ a' := fun z => by rw [z, e4] at q; cases q
      rw [upd_ne hb]; exact r.ex b u q
    fg := fun b u q => by
      have hb : b ≠ a' := fun z => by rw [z, e5] at q; cases q
      rw [upd_ne hb]; exact r.fg b u q
    len := by rw [List.length_set]; exact r.len
    sh := fun j e q => by
      rcases setGet q with ⟨rfl, z⟩ | ⟨hj, z⟩
      · subst z; cases hs
      · exact r.sh j e z
    ow := fun j u q w => by
      rcases setGet q with ⟨rfl, z⟩ | ⟨hj, z⟩
      · subst z; exact ⟨a', o, ha, upd_same, ho, e4, e5⟩
      · obtain ⟨b, p, f1, f2, f3, f4, f5⟩ := r.ow j u z w
        have hb : b ≠ a' := fun zz => by
          subst zz
          exact hj (r.ap j i u t b z w ht hto f1 ha)
        exact ⟨b, p, f1, by rw [upd_ne hb]; exact f2, f3, f4, f5⟩
    ap := fun j k u w b h1 h2 h3 h4 h5 h6 => by
      have f : ∀ {j : Nat} {u : Sl}, (δ.set i s)[j]? = some u → u.own = true → ∃ u', δ[j]? = some u' ∧ u'.own = true := fun {j u} q w => by
        rcases setGet q with ⟨rfl, z⟩ | ⟨hj, z⟩
        · exact ⟨t, ht, hto⟩
        · exact ⟨u, z, w⟩
      obtain ⟨u1, q1, w1⟩ := f h1 h2
      obtain ⟨u2, q2, w2⟩ := f h3 h4
      exact r.ap j k u1 u2 b q1 w1 q2 w2 h5 h6
    pin := fun p hp => by
      obtain ⟨h1, u, h2, h3⟩ := r.pin p hp
      refine ⟨h1, ?_⟩
      by_cases hpi : i = p.1
      · exact ⟨s, by rw [← hpi, List.getElem?_set_self hil], hs⟩
      · exact ⟨u, by rw [List.getElem?_set_ne hpi]; exact h2, h3⟩ }
end
end Dn
namespace Dn
open PySem PySem.Spec PyProof.Rows L2
/-- what is wanted of an exception -/
abbrev XQ := Exn → L2.St → Hp → Prop
abbrev noX : XQ := fun _ _ _ => False
def Post {α : Type} (K : Frag) (E : XQ) (W : Wd) (Hs : Hp) (σ : L2.St) (r : Res α) (Q : α → Hp → Hp → Env → Prop) : Prop :=
  match r with
  | .ok a δ' => ∀ Hs' H', Ex Hs Hs' → RE K W Hs' H' σ δ' → Q a Hs' H' δ'
  | .exc x δ' => ∀ Hs' H', Ex Hs Hs' → RE K W Hs' H' σ δ' → E x σ H'
  | .bad => False
theorem Post.ex {α : Type} {K : Frag} {E : XQ} {W : Wd} {Hs Hs1 : Hp} {σ : L2.St} {r : Res α} {Q : α → Hp → Hp → Env → Prop} (h : Post K E W Hs σ r Q) (e : Ex Hs Hs1) : Post K E W Hs1 σ r Q := by
  cases r with
  | ok a δ' => exact fun Hs' H' e' r => h Hs' H' (e.trans e') r
  | exc x δ' => exact fun Hs' H' e' r => h Hs' H' (e.trans e') r
  | bad => exact h
theorem Post.of {α : Type} {K : Frag} {E : XQ} {W : Wd} {Hs H : Hp} {σ : L2.St} {a : α} {δ : Env} {Q : α → Hp → Hp → Env → Prop} (h : Post K E W Hs σ (.ok a δ) Q) (r : RE K W Hs H σ δ) : Q a Hs H δ := h Hs H (Ex.refl _) r
theorem Post.grow {α : Type} {K : Frag} {E : XQ} {W : Wd} {Hs H Hs' H' : Hp} {σ : L2.St} {a : α} {δ : Env} {Q : α → Hp → Hp → Env → Prop} (h : Post K E W Hs σ (.ok a δ) Q) (r : RE K W Hs H σ δ) (g : Gr Hs H Hs' H') : Q a Hs' H' δ :=
  h Hs' H' g.s (r.grow g)
/-- a run from some world that the slots and the heap bear -/
def Cf {α : Type} (K : Frag) (E : XQ) (ps : List Nat) (m : M α) (σ : L2.St) (H : Hp) (Q : Wd → α → Hp → Hp → Env → Prop) : Prop :=
  ∃ (W : Wd) (Hs : Hp) (δ : Env), W.pn.map (·.1) = ps ∧ RE K W Hs H σ δ ∧ Post K E W Hs σ (m δ) (Q W)
def tOf (K : Frag) (E : XQ) (ps : List Nat) (m : M D) : TE := fun σ H Q => Cf K E ps m σ H fun _ d Hs' H' _ => ∀ v, Rp K Hs' v d → Q v H'
def tOfT (K : Frag) (E : XQ) (ps : List Nat) (m : M Bool) : TT := fun σ H Q => Cf K E ps m σ H fun _ b _ H' _ => Q b H'
def tOfO (K : Frag) (E : XQ) (ps : List Nat) (m : M (List D)) : TE := fun σ H Q => Cf K E ps m σ H fun W xs Hs' H' δ' => ∀ a, FrO K W Hs' H' σ δ' a xs → Q (.ref a) H'
/-- an argument: shared data, or a list of one's own -/
inductive Ag where
  | sh (d : D)
  | ow (i : Nat)
def AgR (K : Frag) (Hs : Hp) (σ : L2.St) : List V → List Ag → Prop
  | [], [] => True
  | v :: vs, .sh d :: gs => Rp K Hs v d ∧ AgR K Hs σ vs gs
  | v :: vs, .ow i :: gs => σ[i]? = some (some v) ∧ AgR K Hs σ vs gs
  | _, _ => False
def tOfA (K : Frag) (E : XQ) (ps : List Nat) (m : M (List Ag)) : TA := fun σ H Q => Cf K E ps m σ H fun _ gs Hs' H' _ => ∀ vs, AgR K Hs' σ vs gs → Q vs H'
theorem AgR.ex {K : Frag} {Hs Hs' : Hp} {σ : L2.St} (e : Ex Hs Hs') : ∀ {vs : List V} {gs : List Ag}, AgR K Hs σ vs gs → AgR K Hs' σ vs gs
  | [], [], _ => trivial
  | [], _ :: _, h => h.elim
  | _ :: _, [], h => h.elim
  | _ :: _, .sh _ :: _, h => ⟨h.1.ex e, AgR.ex e h.2⟩
  | _ :: _, .ow _ :: _, h => ⟨h.1, AgR.ex e h.2⟩
section
variable {K : Frag} {E : XQ} {ps : List Nat} {W : Wd} {Hs H : Hp} {σ : L2.St} {δ : Env}
/-- one step of a run: a part is run, the rest goes on -/
theorem Cf.step {α β : Type} {ma : M α} {f : α → M β} {QQ : β → Hp → Hp → Env → Prop} {R : Wd → α → Hp → Hp → Env → Prop} (hp : W.pn.map (·.1) = ps) (re : RE K W Hs H σ δ) (po : Post K E W Hs σ (mBind ma f δ) QQ)
    (k : ∀ a Hs1 H1 δ1, Ex Hs Hs1 → RE K W Hs1 H1 σ δ1 → Post K E W Hs1 σ (f a δ1) QQ → R W a Hs1 H1 δ1) : Cf K E ps ma σ H R := by
  refine ⟨W, Hs, δ, hp, re, ?_⟩
  unfold mBind at po
  cases h : ma δ with
  | ok a δ1 =>
    rw [h] at po
    exact fun Hs' H' e r => k a Hs' H' δ1 e r (Post.ex po e)
  | exc x δ1 =>
    rw [h] at po
    exact po
  | bad =>
    rw [h] at po
    exact po
theorem tOf.step {β : Type} {ma : M D} {f : D → M β} {QQ : β → Hp → Hp → Env → Prop} {R : V → Hp → Prop} (hp : W.pn.map (·.1) = ps) (re : RE K W Hs H σ δ) (po : Post K E W Hs σ (mBind ma f δ) QQ)
    (k : ∀ v d Hs1 H1 δ1, Ex Hs Hs1 → RE K W Hs1 H1 σ δ1 → Rp K Hs1 v d → Post K E W Hs1 σ (f d δ1) QQ → R v H1) : tOf K E ps ma σ H R :=
  Cf.step hp re po fun d Hs1 H1 δ1 e r p v rv => k v d Hs1 H1 δ1 e r rv p
theorem tOfT.step {β : Type} {ma : M Bool} {f : Bool → M β} {QQ : β → Hp → Hp → Env → Prop} {R : Bool → Hp → Prop} (hp : W.pn.map (·.1) = ps) (re : RE K W Hs H σ δ) (po : Post K E W Hs σ (mBind ma f δ) QQ)
    (k : ∀ b Hs1 H1 δ1, Ex Hs Hs1 → RE K W Hs1 H1 σ δ1 → Post K E W Hs1 σ (f b δ1) QQ → R b H1) : tOfT K E ps ma σ H R :=
  Cf.step hp re po k
theorem tOfA.step {β : Type} {ma : M (List Ag)} {f : List Ag → M β} {QQ : β → Hp → Hp → Env → Prop} {R : List V → Hp → Prop} (hp : W.pn.map (·.1) = ps) (re : RE K W Hs H σ δ) (po : Post K E W Hs σ (mBind ma f δ) QQ)
    (k : ∀ vs gs Hs1 H1 δ1, Ex Hs Hs1 → RE K W Hs1 H1 σ δ1 → AgR K Hs1 σ vs gs → Post K E W Hs1 σ (f gs δ1) QQ → R vs H1) : tOfA K E ps ma σ H R :=
  Cf.step hp re po fun gs Hs1 H1 δ1 e r p vs rv => k vs gs Hs1 H1 δ1 e r rv p
theorem tOfO.step {β : Type} {ma : M (List D)} {f : List D → M β} {QQ : β → Hp → Hp → Env → Prop} {R : V → Hp → Prop} (hp : W.pn.map (·.1) = ps) (re : RE K W Hs H σ δ) (po : Post K E W Hs σ (mBind ma f δ) QQ)
    (k : ∀ a xs Hs1 H1 δ1, Ex Hs Hs1 → RE K W Hs1 H1 σ δ1 → FrO K W Hs1 H1 σ δ1 a xs → Post K E W Hs1 σ (f xs δ1) QQ → R (.ref a) H1) : tOfO K E ps ma σ H R :=
  Cf.step hp re po fun xs Hs1 H1 δ1 e r p a fa => k a xs Hs1 H1 δ1 e r fa p
/-- the last part of a run -/
theorem Cf.last {α : Type} {ma : M α} {R : Wd → α → Hp → Hp → Env → Prop} (hp : W.pn.map (·.1) = ps) (re : RE K W Hs H σ δ) (po : Post K E W Hs σ (ma δ) (R W)) : Cf K E ps ma σ H R := ⟨W, Hs, δ, hp, re, po⟩
theorem Post.opt {α : Type} {o : Option α} {QQ : α → Hp → Hp → Env → Prop} (po : Post K E W Hs σ (mOpt o δ) QQ) : ∃ a, o = some a ∧ Post K E W Hs σ (.ok a δ) QQ := by
  unfold mOpt at po
  cases o with
  | none => exact po.elim
  | some a => exact ⟨a, rfl, po⟩
end
theorem pe_imp {X : Cx} {e : Expr} {t t' : TE} (h : PE X e t) (k : ∀ σ H Q, t' σ H Q → t σ H Q) : PE X e t' := ⟨fun pins s σ H Q I q => h.run pins s σ H Q I (k σ H Q q)⟩
theorem pt_imp {X : Cx} {e : Expr} {t t' : TT} (h : PT X e t) (k : ∀ σ H Q, t' σ H Q → t σ H Q) : PT X e t' := ⟨fun pins s σ H Q I q => h.run pins s σ H Q I (k σ H Q q)⟩
theorem pw_imp {X : Cx} {e : Expr} {t t' : TT} (h : PW X e t) (k : ∀ σ H Q, t' σ H Q → t σ H Q) : PW X e t' := ⟨fun wh pins s σ H Q I q => h.run wh pins s σ H Q I (k σ H Q q)⟩
theorem pa_imp {X : Cx} {e : List Expr} {t t' : TA} (h : PA X e t) (k : ∀ σ H Q, t' σ H Q → t σ H Q) : PA X e t' := ⟨fun p pins s σ H Q I q => h.run p pins s σ H Q I (k σ H Q q)⟩
theorem pst_imp {X : Cx} {e : Stmt} {t t' : TS} (h : PS X e t) (k : ∀ D σ H, t' D σ H → t D σ H) : PS X e t' := ⟨fun pins s σ H D I q => h.run pins s σ H D I (k D σ H q)⟩
theorem pss_imp {X : Cx} {e : List Stmt} {t t' : TS} (h : PSs X e t) (k : ∀ D σ H, t' D σ H → t D σ H) : PSs X e t' := ⟨fun pins s σ H D I q => h.run pins s σ H D I (k D σ H q)⟩
section
variable {X : Cx} {E : XQ} {ps : List Nat} {a b e : Expr} {pos : Pos} {ma mb : M D}
def mVar (i : Nat) : M D := fun δ => match δ[i]? with
  | some (.sh d) => .ok d δ
  | _ => .bad
theorem je_var {i : Nat} {x : Str} (hN : X.N[i]? = some x) (hv : Vis X.env.scope x) (hd : (x == ("__debug__" : Str)) = false := by decide) (hcd : (x == ("__classdict__" : Str)) = false := by decide) : PE X (.Name x pos) (tOf X.K E ps (mVar i)) :=
  pe_imp (pe_var hN hv hd hcd) fun σ H Q ⟨W, Hs, δ, hp, re, po⟩ => by
    unfold mVar at po
    split at po
    · rename_i d hd
      obtain ⟨v, h1, h2⟩ := re.sh i d hd
      exact ⟨v, h1, po Hs H (Ex.refl _) re v h2⟩
    · exact po.elim
/-- a constant -/
def mC (d : D) : M D := mPure d
theorem je_c {t : TE} {d : D} {v : V} (h : PE X e (tC v)) (hv : ∀ H, Rp X.K H v d) : PE X e (tOf X.K E ps (mC d)) :=
  pe_imp h fun σ H Q ⟨W, Hs, δ, hp, re, po⟩ => Post.of po re v (hv Hs)
theorem je_int {i : Int} {j pos} : PE X (.Constant (.int i) j pos) (tOf X.K E ps (mC (.int i))) := je_c (t := tC (.int i)) pe_int fun _ => .int i
theorem je_bl {i : Bool} {j pos} : PE X (.Constant (.bool i) j pos) (tOf X.K E ps (mC (.bool i))) := je_c (t := tC (.bl i)) pe_bl fun _ => .bl i
theorem je_non {j pos} : PE X (.Constant .none j pos) (tOf X.K E ps (mC .none)) := je_c (t := tC .non) pe_non fun _ => .non
theorem je_str {x : Str} {j pos} : PE X (.Constant (.str x) j pos) (tOf X.K E ps (mC (.str x))) := je_c (t := tC (.str x)) pe_str fun _ => .str x
theorem je_glob {x : Str} {v : V} {u : Value} {d : D} (hg : Gl X x) (hm : X.mg x = some u) (r : RelV v u) (hv : ∀ H, Rp X.K H v d) (hd : (x == ("__debug__" : Str)) = false := by decide) : PE X (.Name x pos) (tOf X.K E ps (mC d)) := je_c (t := tC v) (pe_glob hg hm r hd) hv
/-- a reading by values gives what a function upon data tells -/
def OpS (K : Frag) (r : R2) (g : D → D → Option D) : Prop := ∀ Hs H x y d e c (Q : VK), Ex Hs H → Rp K Hs x d → Rp K Hs y e → g d e = some c → (∀ v Hs' H', Gr Hs H Hs' H' → Rp K Hs' v c → Q v H') → r x y H Q
theorem OpS.or {K : Frag} {r r' : R2} {g g' : D → D → Option D} (h : OpS K r g) (h' : OpS K r' g') : OpS K (fun x y H Q => r x y H Q ∨ r' x y H Q) (fun d e => (g d e).or (g' d e)) := fun Hs H x y d e c Q ex rx ry hg k => by
  have hg : (g d e).or (g' d e) = some c := hg
  cases q : g d e with
  | some c' =>
    rw [q] at hg
    have hc : c' = c := by simpa using hg
    subst hc
    exact .inl (h Hs H x y d e c' Q ex rx ry q k)
  | none =>
    rw [q] at hg
    exact .inr (h' Hs H x y d e c Q ex rx ry (by simpa using hg) k)
def mBin (g : D → D → Option D) (ma mb : M D) : M D := mBind ma fun d => mBind mb fun e => mOpt (g d e)
theorem binS {r : R2} {g : D → D → Option D} (hr : OpS X.K r g) {σ : L2.St} {H : Hp} {Q : VK} (h : tOf X.K E ps (mBin g ma mb) σ H Q) : tOp r (tOf X.K E ps ma) (tOf X.K E ps mb) σ H Q := by
  obtain ⟨W, Hs, δ, hp, re, po⟩ := h
  refine tOf.step hp re po fun x d Hs1 H1 δ1 e1 re1 r1 po1 => ?_
  refine tOf.step hp re1 po1 fun y e Hs2 H2 δ2 e2 re2 r2 po2 => ?_
  obtain ⟨c, hc, po3⟩ := Post.opt po2
  exact hr Hs2 H2 x y d e c Q re2.ex (r1.ex e2) r2 hc fun v Hs' H' g rv => Post.grow po3 re2 g v rv
theorem je_bin {op : Operator} {r : R2} {g : D → D → Option D} (ho : OpR X (binaryOp op) r) (hr : OpS X.K r g) (ha : PE X a (tOf X.K E ps ma)) (hb : PE X b (tOf X.K E ps mb)) : PE X (.BinOp a op b pos) (tOf X.K E ps (mBin g ma mb)) :=
  pe_imp (pe_op ho ha hb) fun _ _ _ h => binS hr h
theorem je_cmp {op : CmpOp} {r : R2} {g : D → D → Option D} (ho : OpR X (compareOp op) r) (hr : OpS X.K r g) (ha : PE X a (tOf X.K E ps ma)) (hb : PE X b (tOf X.K E ps mb)) (hm : behindInMarks op b = false) : PE X (.Compare a [op] [b] pos) (tOf X.K E ps (mBin g ma mb)) :=
  pe_imp (pe_cmpR ho ha hb hm) fun _ _ _ h => binS hr h
def toB : D → Option Bool
  | .bool b => some b
  | _ => none
def mTest (m : M D) : M Bool := mBind m fun d => mOpt (toB d)
theorem testS {t : TE} {m : M D} (h : ∀ σ H Q, tOf X.K E ps m σ H Q → t σ H Q) {σ : L2.St} {H : Hp} {Q : Bool → Hp → Prop} (q : tOfT X.K E ps (mTest m) σ H Q) : tTest t σ H Q := by
  obtain ⟨W, Hs, δ, hp, re, po⟩ := q
  refine h _ _ _ (tOf.step hp re po fun x d Hs1 H1 δ1 e1 re1 r1 po1 => ?_)
  obtain ⟨c, hc, po3⟩ := Post.opt po1
  cases r1 <;> simp [toB] at hc
  subst hc
  exact ⟨_, rfl, Post.of po3 re1⟩
theorem jt_cmp {op : CmpOp} {r : R2} {g : D → D → Option D} (ho : OpR X (compareOp op) r) (hr : OpS X.K r g) (ha : PE X a (tOf X.K E ps ma)) (hb : PE X b (tOf X.K E ps mb)) (hm : behindInMarks op b = false) : PT X (.Compare a [op] [b] pos) (tOfT X.K E ps (mTest (mBin g ma mb))) :=
  pt_imp (pt_cmpR ho ha hb hm) fun _ _ _ h => testS (fun _ _ _ => binS hr) h
/-- an expression that is True or False, as a test -/
theorem jt_val {m : M D} (h : PE X e (tOf X.K E ps m)) (he : ∀ whole, isTrue e X.env whole = (do let v ← whole; standAt e.pos; holding [v] (truthy v)) := by intro _; rfl) : PT X e (tOfT X.K E ps (mTest m)) :=
  pt_imp (pt_val h he) fun _ _ _ q => testS (fun _ _ _ z => z) q
/-- an int, a text, a list .. as a test -/
def truD : D → Option Bool
  | .none => some false
  | .bool b => some b
  | .int i => some (i != 0)
  | .str x => if x.length ≤ sizeLine then some (x.length != 0) else none
  | .list xs => some (!xs.isEmpty)
  | .tuple xs => some (!xs.isEmpty)
  | _ => none
def mChain (g g' : D → D → Option D) (ma mb mc : M D) : M D := mBind ma fun d => mBind mb fun e => mBind (mOpt ((g d e).bind toB)) fun k => if k then mBind mc fun f => mOpt (g' e f) else mPure (.bool false)
variable {c : Expr} {mc : M D}
end
end Dn
namespace Dn
open PySem PySem.Spec PyProof.Rows L2
section
variable {X : Cx} {K : Frag}
/-- two lists that stand in the heap, put together -/
def rCatR (K : Frag) : R2 := fun x y H Q => ∃ (l b : Addr) (xs zs : List V), x = .ref l ∧ y = .ref b ∧ SqL K H l xs ∧ SqL K H b zs ∧ xs.length + zs.length ≤ sizeLine ∧ ∀ p, H p = none → Q (.ref p) (upd H p (.lst (xs ++ zs)))
theorem op_catR : OpR X (binaryOp .Add) (rCatR X.K) := by
  intro pins s σ H x y v u Q I rx ry h
  obtain ⟨l, b, xs, zs, e1, e2, hl, hb, hz, q⟩ := h
  subst e1; subst e2
  obtain rfl : v = Value.ref l := rx
  obtain rfl : u = Value.ref b := ry
  obtain ⟨its, r1, ⟨o1, n1, g1, c1, d1, t1⟩, _⟩ := I.list hl
  obtain ⟨jts, r2, ⟨o2, n2, g2, c2, d2, t2⟩, _⟩ := I.list hb
  cases o1
  cases o2
  simp only at c1 d1 t1 c2 d2 t2
  subst c1 d1 t1 c2 d2 t2
  have m1 := r1.length
  have m2 := r2.length
  have ea : its.toArray ++ jts.toArray = (its ++ jts).toArray := by simp
  refine concat_meets ⟨_, g1, rfl⟩ ⟨_, g2, rfl⟩ noFill_list_add seq_list_add PySem.F.slot_list_add PySem.F.entry_list_add
    (PySem.F.args_list_add_2 _ _) (PyProof.Rows.list_addW l b its.toArray jts.toArray _ _ _ _ _ _ (by simp only [List.size_toArray]; omega)) ⟨g1, g2, ?_⟩
  rw [ea]
  have hlen : (xs ++ zs).length ≤ sizeLine := by simp only [List.length_append]; omega
  exact ⟨.ref _, _, I.lnew (t' := s.toks) (r1.append r2) hlen, rfl, q _ I.fresh⟩
def rAddA (K : Frag) : R2 := fun x y H Q => (rI0 fun i j => .int (i + j)) x y H Q ∨ (∃ i j, x = .str i ∧ y = .str j ∧ i.length + j.length ≤ sizeLine ∧ Q (.str (i ++ j)) H) ∨ rCatA K x y H Q ∨ rCatR K x y H Q
theorem op_addA : OpR X (binaryOp .Add) (rAddA X.K) := op_add.or (op_add_str.or (op_catA.or op_catR))
def dAdd : D → D → Option D
  | .int i, .int j => some (.int (i + j))
  | .str x, .str y => if x.length + y.length ≤ sizeLine then some (.str (x ++ y)) else none
  | .tuple xs, .tuple ys => if xs.length + ys.length ≤ sizeLine then some (.tuple (xs ++ ys)) else none
  | .list xs, .list ys => if xs.length + ys.length ≤ sizeLine then some (.list (xs ++ ys)) else none
  | _, _ => none
theorem Rps.nil_iff {H : Hp} {vs : List V} {ds : List D} (h : Rps K H vs ds) : vs = [] ↔ ds = [] := by
  cases h <;> simp
theorem os_add : OpS K (rAddA K) dAdd := fun Hs H x y d e c Q ex rx ry hg k => by
  cases rx with
  | int i =>
    cases ry <;> simp [dAdd] at hg
    subst hg
    exact .inl ⟨i, _, rfl, rfl, k _ Hs H (.refl ex) (.int _)⟩
  | str a =>
    cases ry <;> simp [dAdd] at hg
    obtain ⟨hl, hg⟩ := hg
    subst hg
    exact .inr (.inl ⟨a, _, rfl, rfl, hl, k _ Hs H (.refl ex) (.str _)⟩)
  | tup h1 t1 =>
    cases ry with
    | tup h2 t2 =>
      simp [dAdd] at hg
      obtain ⟨hl, hg⟩ := hg
      subst hg
      refine .inr (.inr (.inl ⟨_, _, _, _, rfl, rfl, sqT_ex ex h1, sqT_ex ex h2, by rw [t1.length, t2.length]; exact hl, fun z => ?_, fun z1 z2 => ?_, fun z1 z2 p hp => ?_⟩))
      · have z' := t1.nil_iff.mp z
        subst z'
        exact k _ Hs H (.refl ex) (.tup h2 t2)
      · have z' := t2.nil_iff.mp z2
        subst z'
        exact k _ Hs H (.refl ex) (by rw [List.append_nil]; exact .tup h1 t1)
      · exact k _ _ _ (Gr.new ex hp) (.tup (StT.of upd_same) ((t1.append t2).ex (Gr.new ex hp).s))
    | _ => simp [dAdd] at hg
  | lst h1 t1 =>
    cases ry with
    | lst h2 t2 =>
      simp [dAdd] at hg
      obtain ⟨hl, hg⟩ := hg
      subst hg
      refine .inr (.inr (.inr ⟨_, _, _, _, rfl, rfl, sqL_ex ex h1, sqL_ex ex h2, by rw [t1.length, t2.length]; exact hl, fun p hp => ?_⟩))
      exact k _ _ _ (Gr.new ex hp) (.lst (SqL.of upd_same) ((t1.append t2).ex (Gr.new ex hp).s))
    | _ => simp [dAdd] at hg
  | _ => cases ry <;> simp [dAdd] at hg
/-- two ints -/
def dI (C : Int → Int → Bool) (f : Int → Int → Int) : D → D → Option D
  | .int i, .int j => if C i j then some (.int (f i j)) else none
  | _, _ => none
theorem os_I {P : Int → Int → Prop} {C : Int → Int → Bool} {f : Int → Int → Int} (hC : ∀ i j, C i j = true → P i j) : OpS K (rI P fun i j => .int (f i j)) (dI C f) := fun Hs H x y d e c Q ex rx ry hg k => by
  cases rx with
  | int i =>
    cases ry <;> simp [dI] at hg
    obtain ⟨hc, hg⟩ := hg
    subst hg
    exact ⟨i, _, rfl, rfl, hC _ _ hc, k _ Hs H (.refl ex) (.int _)⟩
  | _ => cases ry <;> simp [dI] at hg
theorem os_I0 {f : Int → Int → Int} : OpS K (rI0 fun i j => .int (f i j)) (dI (fun _ _ => true) f) := fun Hs H x y d e c Q ex rx ry hg k => by
  cases rx with
  | int i =>
    cases ry <;> simp [dI] at hg
    subst hg
    exact ⟨i, _, rfl, rfl, k _ Hs H (.refl ex) (.int _)⟩
  | _ => cases ry <;> simp [dI] at hg
abbrev dSub := dI (fun _ _ => true) (fun i j => i - j)
theorem os_sub : OpS K (rI0 fun i j => .int (i - j)) dSub := os_I0
abbrev dMod := dI (fun _ j => decide (0 < j)) (fun i j => i % j)
theorem os_mod : OpS K (rI (fun _ j => 0 < j) fun i j => .int (i % j)) dMod := os_I fun _ _ h => of_decide_eq_true h
abbrev dDiv := dI (fun _ j => decide (0 < j ∧ j < 4611686018427387904)) (fun i j => i / j)
theorem os_div : OpS K (rI CDivW fun i j => .int (i / j)) dDiv := os_I fun i j h => by
  obtain ⟨h1, h2⟩ := (of_decide_eq_true h : 0 < j ∧ j < 4611686018427387904)
  refine ⟨h1, Nat.lt_trans (Nat.log2_lt (by omega) |>.mpr (?_ : j.natAbs < 2 ^ 62)) (by decide)⟩
  omega
abbrev dPow := dI (fun i j => decide (0 ≤ j ∧ j ≤ 1000000 ∧ i.natAbs < 2 ^ 64)) (fun i j => i ^ j.toNat)
theorem os_pow : OpS K (rI CPow fun i j => .int (i ^ j.toNat)) dPow := os_I fun i j h => (of_decide_eq_true h : 0 ≤ j ∧ j ≤ 1000000 ∧ i.natAbs < 2 ^ 64)
theorem rep_size (a : Array Nat) : ∀ (n : Nat) (acc : Array Nat), ((List.replicate n a).foldl (· ++ ·) acc).size = acc.size + n * a.size
  | 0, acc => by simp
  | n + 1, acc => by
    rw [List.replicate_succ, List.foldl_cons, rep_size a n, Array.size_append, Nat.succ_mul]
    omega
/-- a text some times -/
def strRep (x : Str) (n : Int) : Str := if n < 1 then Str.empty else if (n == 1 || x.length == 0) = true then x else ⟨(List.replicate n.toNat x.cps).foldl (· ++ ·) #[]⟩
def rRepS : R2 := fun x y H Q => ∃ z n, x = .str z ∧ y = .int n ∧ (-1000000 ≤ n ∧ n ≤ 1000000 ∧ z.length ≤ 16) ∧ Q (.str (strRep z n)) H
theorem op_repS : OpR X (binaryOp .Mult) rRepS := by
  intro pins s σ H x y v u Q I rx ry h
  obtain ⟨z, n, e1, e2, ⟨h1, h2, h3⟩, q⟩ := h
  subst e1; subst e2
  obtain ⟨t, rfl⟩ := rx
  obtain ⟨t', rfl⟩ := ry
  have hz : z.length * n.toNat ≤ 16000000 := Nat.le_trans (Nat.mul_le_mul h3 (show n.toNat ≤ 1000000 by omega)) (by decide)
  refine PySem.P.mul_str ?_ (fun a b => ?_) (fun a b => ?_) ?_
  · rw [decide_eq_false (by omega), decide_eq_false (by omega)]; rfl
  · have hn : 1 ≤ n := by omega
    intro hc
    have : (16 : Int) ≤ (2 ^ 63 - 1) / n := by
      refine (Int.le_ediv_iff_mul_le (by omega)).mpr ?_
      omega
    omega
  · unfold Builtin.Str.tooLong
    have h16 : (16000000 : Nat) ≤ sizeLine := by decide
    simp
    omega
  · unfold strRep at q
    split
    · rename_i hn
      rw [if_pos hn] at q
      exact ⟨by decide, ⟨.str Str.empty, H, I.tok _, ⟨_, rfl⟩, q⟩⟩
    · rename_i hn
      rw [if_neg hn] at q
      split
      · rename_i hb
        rw [if_pos hb] at q
        exact ⟨.str z, H, I, ⟨_, rfl⟩, q⟩
      · rename_i hb
        rw [if_neg hb] at q
        refine ⟨?_, ⟨.str _, H, I.tok _, ⟨_, rfl⟩, q⟩⟩
        have h16 : (16000000 : Nat) ≤ sizeLine := by decide
        show (Array.size _) ≤ sizeLine
        rw [rep_size]
        have hm : n.toNat * z.cps.size ≤ 16000000 := by rw [Nat.mul_comm]; exact hz
        simp only [List.size_toArray, List.length_nil]
        omega
end
end Dn
namespace Dn
open PySem PySem.Spec PyProof.Rows L2
section
variable {X : Cx} {K : Frag}
def dMul : D → D → Option D
  | .int i, .int j => if (-(2 ^ 64) < i ∧ i < 2 ^ 64) ∨ (-(2 ^ 64) < j ∧ j < 2 ^ 64) then some (.int (i * j)) else none
  | .str x, .int n => if -1000000 ≤ n ∧ n ≤ 1000000 ∧ x.length ≤ 16 then some (.str (strRep x n)) else none
  | _, _ => none
def rMulA : R2 := fun x y H Q => (rI CMul fun i j => .int (i * j)) x y H Q ∨ rRepS x y H Q
theorem op_mulA : OpR X (binaryOp .Mult) rMulA := op_mul.or op_repS
theorem os_mul : OpS K rMulA dMul := fun Hs H x y d e c Q ex rx ry hg k => by
  cases rx with
  | int i =>
    cases ry <;> simp only [dMul, Option.ite_none_right_eq_some, Option.some.injEq, reduceCtorEq] at hg
    obtain ⟨hc, hg⟩ := hg
    subst hg
    exact .inl ⟨i, _, rfl, rfl, hc, k _ Hs H (.refl ex) (.int _)⟩
  | str z =>
    cases ry <;> simp only [dMul, Option.ite_none_right_eq_some, Option.some.injEq, reduceCtorEq] at hg
    obtain ⟨hc, hg⟩ := hg
    subst hg
    exact .inr ⟨z, _, rfl, rfl, hc, k _ Hs H (.refl ex) (.str _)⟩
  | _ => cases ry <;> simp [dMul] at hg
def dEqB : D → D → Option Bool
  | .str x, .str y => some (decide (x = y))
  | d, e => if SeqAt.shaped d = true ∧ SeqAt.shaped e = true then some (PyData.eqv d e) else none
def dEq (d e : D) : Option D := (dEqB d e).map PyData.bool
def dNe (d e : D) : Option D := (dEqB d e).map fun b => PyData.bool (!b)
def rEqA (K : Frag) (neg : Bool) : R2 := fun x y H Q => (∃ i j, x = .str i ∧ y = .str j ∧ Q (.bl (if neg then !decide (i = j) else decide (i = j))) H) ∨ ∃ d e, Dp K H x d ∧ Dp K H y e ∧ SeqAt.shaped d = true ∧ SeqAt.shaped e = true ∧ Q (.bl (if neg then !PyData.eqv d e else PyData.eqv d e)) H
theorem op_eqA (hu : X.A.units + 64 < cLine) : OpR X (compareOp .Eq) (rEqA X.K false) := by
  refine OpR.or (fun pins s σ H x y v u Q I rx ry h => ?_) (op_eqD hu)
  obtain ⟨i, j, e1, e2, q⟩ := h
  subst e1; subst e2
  refine op_eq pins s σ H _ _ v u Q I rx ry ⟨rfl, ?_⟩
  have e : decide (V.str i = V.str j) = decide (i = j) := by by_cases h : i = j <;> simp [h]
  rw [e]; exact q
theorem op_neA (hu : X.A.units + 64 < cLine) : OpR X (compareOp .NotEq) (rEqA X.K true) := by
  refine OpR.or (fun pins s σ H x y v u Q I rx ry h => ?_) (op_neD hu)
  obtain ⟨i, j, e1, e2, q⟩ := h
  subst e1; subst e2
  refine op_ne pins s σ H _ _ v u Q I rx ry ⟨rfl, ?_⟩
  have e : decide (V.str i = V.str j) = decide (i = j) := by by_cases h : i = j <;> simp [h]
  rw [e]; exact q
theorem eqS {neg : Bool} {Hs H : Hp} {x y : V} {d e : D} {b : Bool} {Q : VK} (ex : Ex Hs H) (rx : Rp K Hs x d) (ry : Rp K Hs y e) (hg : dEqB d e = some b) (q : Q (.bl (if neg then !b else b)) H) : rEqA K neg x y H Q := by
  have gen : (if SeqAt.shaped d = true ∧ SeqAt.shaped e = true then some (PyData.eqv d e) else none) = some b → rEqA K neg x y H Q := fun h => by
    simp only [Option.ite_none_right_eq_some, Option.some.injEq] at h
    obtain ⟨⟨h1, h2⟩, h⟩ := h
    exact .inr ⟨d, e, (rx.ex ex).dp, (ry.ex ex).dp, h1, h2, by rw [h]; exact q⟩
  by_cases hs : ∃ i j, d = .str i ∧ e = .str j
  · obtain ⟨i, j, e1, e2⟩ := hs
    subst e1; subst e2
    cases rx
    cases ry
    have hb : decide (i = j) = b := Option.some.inj hg
    exact .inl ⟨i, j, rfl, rfl, by rw [hb]; exact q⟩
  · refine gen ?_
    rw [← hg]
    cases d <;> first | rfl | (cases e <;> first | rfl | exact absurd ⟨_, _, rfl, rfl⟩ hs)
theorem os_eq : OpS K (rEqA K false) dEq := fun Hs H x y d e c Q ex rx ry hg k => by
  unfold dEq at hg
  cases h : dEqB d e with
  | none => rw [h] at hg; simp at hg
  | some b =>
    rw [h] at hg
    have hc : PyData.bool b = c := by simpa using hg
    subst hc
    exact eqS ex rx ry h (k _ Hs H (.refl ex) (.bl _))
theorem os_ne : OpS K (rEqA K true) dNe := fun Hs H x y d e c Q ex rx ry hg k => by
  unfold dNe at hg
  cases h : dEqB d e with
  | none => rw [h] at hg; simp at hg
  | some b =>
    rw [h] at hg
    have hc : PyData.bool (!b) = c := by simpa using hg
    subst hc
    exact eqS ex rx ry h (k _ Hs H (.refl ex) (.bl _))
/-- order: ints, texts -/
def dOrd (f : Int → Int → Bool) (g : Str → Str → Bool) : D → D → Option D
  | .int i, .int j => some (.bool (f i j))
  | .str x, .str y => some (.bool (g x y))
  | _, _ => none
def rOrd (f : Int → Int → Bool) (g : Str → Str → Bool) : R2 := fun x y H Q => (rI0 fun i j => .bl (f i j)) x y H Q ∨ (∃ i j, x = .str i ∧ y = .str j ∧ Q (.bl (g i j)) H)
theorem os_ord {f : Int → Int → Bool} {g : Str → Str → Bool} : OpS K (rOrd f g) (dOrd f g) := fun Hs H x y d e c Q ex rx ry hg k => by
  cases rx with
  | int i =>
    cases ry <;> simp [dOrd] at hg
    subst hg
    exact .inl ⟨i, _, rfl, rfl, k _ Hs H (.refl ex) (.bl _)⟩
  | str z =>
    cases ry <;> simp [dOrd] at hg
    subst hg
    exact .inr ⟨z, _, rfl, rfl, k _ Hs H (.refl ex) (.bl _)⟩
  | _ => cases ry <;> simp [dOrd] at hg
abbrev dLt := dOrd (fun i j => decide (i < j)) (fun x y => decide (x.cps.toList < y.cps.toList))
abbrev dLe := dOrd (fun i j => decide (i ≤ j)) (fun x y => !decide (y.cps.toList < x.cps.toList))
abbrev dGt := dOrd (fun i j => decide (j < i)) (fun x y => decide (y.cps.toList < x.cps.toList))
abbrev dGe := dOrd (fun i j => decide (j ≤ i)) (fun x y => !decide (x.cps.toList < y.cps.toList))
theorem op_ltA : OpR X (compareOp .Lt) (rOrd (fun i j => decide (i < j)) (fun x y => decide (x.cps.toList < y.cps.toList))) := op_lt.or op_lt_str
theorem op_gtA : OpR X (compareOp .Gt) (rOrd (fun i j => decide (j < i)) (fun x y => decide (y.cps.toList < x.cps.toList))) := op_gt.or op_gt_str
theorem op_geA : OpR X (compareOp .GtE) (rOrd (fun i j => decide (j ≤ i)) (fun x y => !decide (x.cps.toList < y.cps.toList))) := op_ge.or op_ge_str
def flatD : D → Bool
  | .none => true
  | .bool _ => true
  | .int _ => true
  | .str _ => true
  | _ => false
theorem flat_v {H : Hp} {v : V} {d : D} (r : Rp K H v d) (h : flatD d = true) : flatV v = true := by
  cases r <;> first | rfl | exact absurd h (by simp [flatD])
theorem flat_vs {H : Hp} : ∀ {vs : List V} {ds : List D}, Rps K H vs ds → ds.all flatD = true → vs.all flatV = true
  | _, _, .nil, _ => rfl
  | _, _, .cons r t, h => by
    rw [List.all_cons, Bool.and_eq_true] at h ⊢
    exact ⟨flat_v r h.1, flat_vs t h.2⟩
theorem eqv_v {H : Hp} {v w : V} {d e : D} (r : Rp K H v d) (q : Rp K H w e) (h : flatD d = true) (h' : flatD e = true) : eqV v w = PyData.eqv d e := by
  cases r <;> cases q <;> first | (simp [flatD] at h; done) | (simp [flatD] at h'; done) | (simp [eqV, PyData.eqv])
def inD (d : D) (ds : List D) : Bool := ds.any fun z => PyData.eqv z d
theorem in_v {H : Hp} {v : V} {d : D} (r : Rp K H v d) (h : flatD d = true) : ∀ {vs : List V} {ds : List D}, Rps K H vs ds → ds.all flatD = true → inV v vs = inD d ds
  | _, _, .nil, _ => rfl
  | _, _, .cons q t, h' => by
    rw [List.all_cons, Bool.and_eq_true] at h'
    have ih := in_v r h t h'.2
    unfold inV inD at ih ⊢
    rw [List.any_cons, List.any_cons, eqv_v q r h'.1 h, ih]
/-- a text in a text -/
def strIn (x y : Str) : Bool := match x.cps.toList with
  | [c] => decide (c ∈ y.cps.toList)
  | _ => !(Builtin.Str.occurrences y x 0 y.length 1).isEmpty
def dInB : D → D → Option Bool
  | .str x, .str y => some (strIn x y)
  | d, .list ds => if flatD d = true ∧ ds.all flatD = true then some (inD d ds) else none
  | d, .tuple ds => if flatD d = true ∧ ds.all flatD = true then some (inD d ds) else none
  | _, _ => none
def dIn (d e : D) : Option D := (dInB d e).map PyData.bool
def dNotIn (d e : D) : Option D := (dInB d e).map fun b => PyData.bool (!b)
def rInA (K : Frag) (neg : Bool) : R2 := fun x y H Q => rIn K neg x y H Q ∨ (∃ (c : Nat) (z : Str), x = .str ⟨#[c]⟩ ∧ y = .str z ∧ Q (.bl (if neg then !decide (c ∈ z.cps.toList) else decide (c ∈ z.cps.toList))) H) ∨
  (∃ i j, x = .str i ∧ y = .str j ∧ Q (.bl (if neg then !(!(Builtin.Str.occurrences j i 0 j.length 1).isEmpty) else !(Builtin.Str.occurrences j i 0 j.length 1).isEmpty)) H)
theorem op_inA : OpR X (compareOp .In) (rInA X.K false) := op_in_seq.or (op_in_sign.or op_in_str)
theorem op_notInA : OpR X (compareOp .NotIn) (rInA X.K true) := op_notIn_seq.or (op_notIn_sign.or L2.op_notIn_str)
theorem strIn_one {x y : Str} {c : Nat} (h : x = ⟨#[c]⟩) : strIn x y = decide (c ∈ y.cps.toList) := by subst h; rfl
theorem inS {neg : Bool} {Hs H : Hp} {x y : V} {d e : D} {b : Bool} {Q : VK} (ex : Ex Hs H) (rx : Rp K Hs x d) (ry : Rp K Hs y e) (hg : dInB d e = some b) (q : Q (.bl (if neg then !b else b)) H) : rInA K neg x y H Q := by
  have seq : ∀ {p : Addr} {vs : List V} {ds : List D}, y = .ref p → (SqL K H p vs ∨ SqT K H p vs) → Rps K Hs vs ds → (if flatD d = true ∧ ds.all flatD = true then some (inD d ds) else none) = some b → rInA K neg x y H Q := fun {p vs ds} ey hs t h => by
    simp only [Option.ite_none_right_eq_some, Option.some.injEq] at h
    obtain ⟨⟨h1, h2⟩, h⟩ := h
    refine .inl ⟨p, vs, ey, hs, flat_v rx h1, flat_vs t h2, ?_⟩
    rw [in_v rx h1 t h2, h]
    exact q
  cases ry with
  | str z =>
    cases rx with
    | str x =>
      have hb : strIn x z = b := Option.some.inj hg
      by_cases hx : ∃ c, x = ⟨#[c]⟩
      · obtain ⟨c, hc⟩ := hx
        rw [strIn_one hc] at hb
        exact .inr (.inl ⟨c, z, by rw [hc], rfl, by rw [hb]; exact q⟩)
      · refine .inr (.inr ⟨x, z, rfl, rfl, ?_⟩)
        have hb' : (!(Builtin.Str.occurrences z x 0 z.length 1).isEmpty) = b := by
          rw [← hb]
          unfold strIn
          split
          · rename_i c hc
            refine absurd ⟨c, ?_⟩ hx
            cases x with
            | mk cps =>
              have : cps = #[c] := by rw [← Array.toList_inj]; exact hc
              rw [this]
          · rfl
        rw [hb']
        exact q
    | _ => simp [dInB] at hg
  | lst h1 t1 => exact seq rfl (.inl (sqL_ex ex h1)) t1 (by cases rx <;> simpa [dInB] using hg)
  | tup h1 t1 => exact seq rfl (.inr (sqT_ex ex h1)) t1 (by cases rx <;> simpa [dInB] using hg)
  | _ => cases rx <;> simp [dInB] at hg
theorem os_in : OpS K (rInA K false) dIn := fun Hs H x y d e c Q ex rx ry hg k => by
  unfold dIn at hg
  cases h : dInB d e with
  | none => rw [h] at hg; simp at hg
  | some b =>
    rw [h] at hg
    have hc : PyData.bool b = c := by simpa using hg
    subst hc
    exact inS ex rx ry h (k _ Hs H (.refl ex) (.bl _))
theorem os_notIn : OpS K (rInA K true) dNotIn := fun Hs H x y d e c Q ex rx ry hg k => by
  unfold dNotIn at hg
  cases h : dInB d e with
  | none => rw [h] at hg; simp at hg
  | some b =>
    rw [h] at hg
    have hc : PyData.bool (!b) = c := by simpa using hg
    subst hc
    exact inS ex rx ry h (k _ Hs H (.refl ex) (.bl _))
@[reducible] def isN : D → Bool
  | .none => true
  | _ => false
def dIsB : D → D → Option Bool
  | .bool a, .bool b => some (decide (a = b))
  | d, .none => some (isN d)
  | _, _ => none
def dIs (d e : D) : Option D := (dIsB d e).map PyData.bool
def dIsNot (d e : D) : Option D := (dIsB d e).map fun b => PyData.bool (!b)
def rIs (neg : Bool) : R2 := fun x y H Q => (y = .non ∧ Q (.bl (if neg then !decide (x = .non) else decide (x = .non))) H) ∨ ∃ a b, x = .bl a ∧ y = .bl b ∧ Q (.bl (if neg then !decide (a = b) else decide (a = b))) H
theorem op_isA : OpR X (compareOp .Is) (rIs false) := op_isN.or op_is_bl
theorem isN_v {H : Hp} {v : V} {d : D} (r : Rp K H v d) : decide (v = .non) = isN d := by
  cases r <;> simp [isN]
theorem isS {neg : Bool} {Hs H : Hp} {x y : V} {d e : D} {b : Bool} {Q : VK} (rx : Rp K Hs x d) (ry : Rp K Hs y e) (hg : dIsB d e = some b) (q : Q (.bl (if neg then !b else b)) H) : rIs neg x y H Q := by
  cases ry with
  | non =>
    have hb : isN d = b := by cases rx <;> simpa [dIsB] using hg
    refine .inl ⟨rfl, ?_⟩
    rw [isN_v rx, hb]
    exact q
  | bl z =>
    cases rx with
    | bl a =>
      have hb : decide (a = z) = b := Option.some.inj hg
      refine .inr ⟨a, z, rfl, rfl, ?_⟩
      rw [hb]
      exact q
    | _ => simp [dIsB] at hg
  | _ => cases rx <;> simp [dIsB] at hg
theorem os_is : OpS K (rIs false) dIs := fun Hs H x y d e c Q ex rx ry hg k => by
  unfold dIs at hg
  cases h : dIsB d e with
  | none => rw [h] at hg; simp at hg
  | some b =>
    rw [h] at hg
    have hc : PyData.bool b = c := by simpa using hg
    subst hc
    exact isS rx ry h (k _ Hs H (.refl ex) (.bl _))
def dIx : D → D → Option D
  | .list xs, .int i => atI xs i
  | .tuple xs, .int i => atI xs i
  | .str z, .int i => if z.length ≤ sizeLine then (atI z.cps.toList i).map fun c => .str ⟨#[c]⟩ else none
  | _, _ => none
theorem atI_rps {H : Hp} {vs : List V} {ds : List D} {i : Int} {d : D} (t : Rps K H vs ds) (h : atI ds i = some d) : ∃ v, atI vs i = some v ∧ Rp K H v d := by
  unfold atI at h ⊢
  rw [t.length]
  cases q : ixN ds.length i with
  | none => rw [q] at h; simp at h
  | some j =>
    rw [q] at h
    simp only [Option.bind_some] at h ⊢
    exact t.get h
theorem os_ix : OpS K (rIx K) dIx := fun Hs H x y d e c Q ex rx ry hg k => by
  cases ry with
  | int i =>
    cases rx with
    | lst h t =>
      obtain ⟨v, h1, h2⟩ := atI_rps t hg
      exact .inl ⟨_, _, i, v, rfl, rfl, sqL_ex ex h, h1, k v Hs H (.refl ex) h2⟩
    | tup h t =>
      obtain ⟨v, h1, h2⟩ := atI_rps t hg
      exact .inr (.inl ⟨_, _, i, v, rfl, rfl, sqT_ex ex h, h1, k v Hs H (.refl ex) h2⟩)
    | str z =>
      simp only [dIx, Option.ite_none_right_eq_some, Option.map_eq_some_iff] at hg
      obtain ⟨hl, a, ha, hg⟩ := hg
      subst hg
      exact .inr (.inr ⟨z, i, a, rfl, rfl, hl, ha, k _ Hs H (.refl ex) (.str _)⟩)
    | _ => simp [dIx] at hg
  | _ => cases rx <;> simp [dIx] at hg
def cutD (xs : List D) (lo hi : Option Int) : List D := (xs.drop (HT.sIx xs.length 0 lo)).take (HT.sIx xs.length xs.length hi - HT.sIx xs.length 0 lo)
def dSl (d : D) (lo hi : Option Int) : Option D := match d with
  | .str z => if z.length ≤ sizeLine then some (.str (cutS z lo hi)) else none
  | .tuple xs => some (.tuple (cutD xs lo hi))
  | .list xs => some (.list (cutD xs lo hi))
  | _ => none
theorem cut_rps {H : Hp} {vs : List V} {ds : List D} {lo hi : Option Int} (t : Rps K H vs ds) : Rps K H (cutV vs lo hi) (cutD ds lo hi) := by
  unfold cutV cutD
  rw [t.length]
  exact (t.drop _).take _
def rSlZ (K : Frag) : V → Option Int → Option Int → Hp → VK → Prop := fun x lo hi H Q => rSlS x lo hi H Q ∨ rSlA K x lo hi H Q ∨ rSlL K x lo hi H Q
theorem sl_Z : SlR X (rSlZ X.K) := sl_str.or (sl_tupA.or sl_list)
theorem sl_whole {xs : List D} {lo hi : Option Int} (h : HT.sIx xs.length 0 lo = 0 ∧ HT.sIx xs.length xs.length hi = xs.length) : cutD xs lo hi = xs := by
  unfold cutD
  rw [h.1, h.2]
  simp
theorem slS {Hs H : Hp} {x : V} {d c : D} {lo hi : Option Int} {Q : VK} (ex : Ex Hs H) (rx : Rp K Hs x d) (hg : dSl d lo hi = some c) (k : ∀ v Hs' H', Gr Hs H Hs' H' → Rp K Hs' v c → Q v H') : rSlZ K x lo hi H Q := by
  cases rx with
  | str z =>
    simp only [dSl, Option.ite_none_right_eq_some, Option.some.injEq] at hg
    obtain ⟨hl, hg⟩ := hg
    subst hg
    exact .inl ⟨z, rfl, hl, k _ Hs H (.refl ex) (.str _)⟩
  | tup h t =>
    obtain rfl := Option.some.inj hg
    refine .inr (.inl ⟨_, _, rfl, sqT_ex ex h, fun z => ?_, fun z p hp => ?_⟩)
    · rw [t.length] at z
      rw [sl_whole z] at k
      exact k _ Hs H (.refl ex) (.tup h t)
    · exact k _ _ _ (Gr.new ex hp) (.tup (StT.of upd_same) ((cut_rps t).ex (Gr.new ex hp).s))
  | lst h t =>
    obtain rfl := Option.some.inj hg
    refine .inr (.inr ⟨_, _, rfl, sqL_ex ex h, fun p hp => ?_⟩)
    exact k _ _ _ (Gr.new ex hp) (.lst (SqL.of upd_same) ((cut_rps t).ex (Gr.new ex hp).s))
  | _ => simp [dSl] at hg
end
section
variable {X : Cx} {E : XQ} {ps : List Nat} {a b e : Expr} {pos : Pos} {ma mb m : M D}
theorem je_ix (ha : PE X a (tOf X.K E ps ma)) (hb : PE X b (tOf X.K E ps mb)) (hs : PlainIx b) : PE X (.Subscript a b pos) (tOf X.K E ps (mBin dIx ma mb)) :=
  pe_imp (pe_ix ix_seq ha hb hs) fun _ _ _ h => binS os_ix h
/-- a part of a slice -/
def tOfP (K : Frag) (E : XQ) (ps : List Nat) (m : M (Option Int)) : TO := fun σ H Q => Cf K E ps m σ H fun _ o _ H' _ => Q o H'
def toI : D → Option (Option Int)
  | .int i => some (some i)
  | _ => none
def mPart (m : M D) : M (Option Int) := mBind m fun d => mOpt (toI d)
def mNoPart : M (Option Int) := mPure none
theorem jp_none : PO X none (tOfP X.K E ps mNoPart) := ⟨fun pins s σ H Q I ⟨W, Hs, δ, hp, re, po⟩ => po_none.run pins s σ H Q I (Post.of po re)⟩
theorem jp_some (h : PE X e (tOf X.K E ps m)) : PO X (some e) (tOfP X.K E ps (mPart m)) := ⟨fun pins s σ H Q I ⟨W, Hs, δ, hp, re, po⟩ => (po_some h).run pins s σ H Q I (by
  refine tOf.step hp re po fun x d Hs1 H1 δ1 e1 re1 r1 po1 => ?_
  obtain ⟨c, hc, po3⟩ := Post.opt po1
  cases r1 <;> simp [toI] at hc
  subst hc
  exact ⟨_, rfl, Post.of po3 re1⟩)⟩
def mSl (m : M D) (ml mh : M (Option Int)) : M D := mBind m fun d => mBind ml fun l => mBind mh fun h => mOpt (dSl d l h)
theorem je_slice {lo hi : Option Expr} {ml mh : M (Option Int)} {p2 : Pos} (he : PE X e (tOf X.K E ps m)) (hl : PO X lo (tOfP X.K E ps ml)) (hu : PO X hi (tOfP X.K E ps mh)) : PE X (.Subscript e (.Slice lo hi none p2) pos) (tOf X.K E ps (mSl m ml mh)) :=
  pe_imp (pe_slice sl_Z he hl hu) fun σ H Q ⟨W, Hs, δ, hp, re, po⟩ => by
    refine tOf.step hp re po fun x d Hs1 H1 δ1 e1 re1 r1 po1 => ?_
    refine Cf.step hp re1 po1 fun l Hs2 H2 δ2 e2 re2 po2 => ?_
    refine Cf.step hp re2 po2 fun u Hs3 H3 δ3 e3 re3 po3 => ?_
    obtain ⟨c, hc, po4⟩ := Post.opt po3
    exact slS re3.ex ((r1.ex e2).ex e3) hc fun v Hs' H' g rv => Post.grow po4 re3 g v rv
variable {t1 t2 : M Bool} {rest : List Expr}
def mAndT (t1 t2 : M Bool) : M Bool := mBind t1 fun b => if b then t2 else mPure false
def mOrT (t1 t2 : M Bool) : M Bool := mBind t1 fun b => if b then mPure true else t2
def mNotT (t : M Bool) : M Bool := mBind t fun b => mPure (!b)
theorem jt_not (h : PT X a (tOfT X.K E ps t1)) : PT X (.UnaryOp .Not a pos) (tOfT X.K E ps (mNotT t1)) :=
  pt_imp (pt_not h) fun σ H Q ⟨W, Hs, δ, hp, re, po⟩ => tOfT.step hp re po fun b Hs1 H1 δ1 e1 re1 po1 => Post.of po1 re1
theorem jw_and1 (h : PT X a (tOfT X.K E ps t1)) : PW X (.BoolOp .And [a] pos) (tOfT X.K E ps t1) := pw_and1 h
theorem jw_or1 (h : PT X a (tOfT X.K E ps t1)) : PW X (.BoolOp .Or [a] pos) (tOfT X.K E ps t1) := pw_or1 h
theorem jw_and (h : PT X a (tOfT X.K E ps t1)) (h2 : PW X (.BoolOp .And (b :: rest) pos) (tOfT X.K E ps t2)) : PW X (.BoolOp .And (a :: b :: rest) pos) (tOfT X.K E ps (mAndT t1 t2)) :=
  pw_imp (pw_and h h2) fun σ H Q ⟨W, Hs, δ, hp, re, po⟩ => tOfT.step hp re po fun b Hs1 H1 δ1 e1 re1 po1 => by
    cases b with
    | true => exact Cf.last hp re1 po1
    | false => exact Post.of po1 re1
theorem jw_or (h : PT X a (tOfT X.K E ps t1)) (h2 : PW X (.BoolOp .Or (b :: rest) pos) (tOfT X.K E ps t2)) : PW X (.BoolOp .Or (a :: b :: rest) pos) (tOfT X.K E ps (mOrT t1 t2)) :=
  pw_imp (pw_or h h2) fun σ H Q ⟨W, Hs, δ, hp, re, po⟩ => tOfT.step hp re po fun b Hs1 H1 δ1 e1 re1 po1 => by
    cases b with
    | true => exact Post.of po1 re1
    | false => exact Cf.last hp re1 po1
/-- .. as values, all True or False but the last -/
def mAndV (m1 m2 : M D) : M D := mBind (mTest m1) fun b => if b then m2 else mPure (.bool false)
def mOrV (m1 m2 : M D) : M D := mBind (mTest m1) fun b => if b then mPure (.bool true) else m2
def mNotV (m : M D) : M D := mBind (mTest m) fun b => mPure (.bool (!b))
theorem testV {W : Wd} {Hs H : Hp} {σ : L2.St} {δ : Env} {β : Type} {f : Bool → M β} {QQ : β → Hp → Hp → Env → Prop} {K : Frag} {R : V → Hp → Prop} (hp : W.pn.map (·.1) = ps) (re : RE K W Hs H σ δ) (po : Post K E W Hs σ (mBind (mTest m) f δ) QQ)
    (k : ∀ b Hs1 H1 δ1, Ex Hs Hs1 → RE K W Hs1 H1 σ δ1 → Post K E W Hs1 σ (f b δ1) QQ → R (.bl b) H1) : tOf K E ps m σ H R := by
  have po' : Post K E W Hs σ (mBind m (fun d => mBind (mOpt (toB d)) f) δ) QQ := by
    have e : mBind (mTest m) f δ = mBind m (fun d => mBind (mOpt (toB d)) f) δ := by
      unfold mTest mBind
      cases m δ <;> rfl
    rw [← e]; exact po
  refine tOf.step hp re po' fun x d Hs1 H1 δ1 e1 re1 r1 po1 => ?_
  cases r1 with
  | bl b => exact k b Hs1 H1 δ1 e1 re1 po1
  | _ => exact po1.elim
theorem je_and (h : PE X a (tOf X.K E ps ma)) (h2 : PE X (.BoolOp .And (b :: rest) pos) (tOf X.K E ps mb)) : PE X (.BoolOp .And (a :: b :: rest) pos) (tOf X.K E ps (mAndV ma mb)) :=
  pe_imp (pe_and h h2) fun σ H Q ⟨W, Hs, δ, hp, re, po⟩ => testV hp re po fun b Hs1 H1 δ1 e1 re1 po1 => ⟨b, rfl, by
    cases b with
    | true => exact Cf.last hp re1 po1
    | false => exact Post.of po1 re1 _ (.bl false)⟩
theorem je_one {op : BoolOp} (h : PE X a (tOf X.K E ps ma)) : PE X (.BoolOp op [a] pos) (tOf X.K E ps ma) := pe_one h
theorem je_not (h : PE X a (tOf X.K E ps ma)) : PE X (.UnaryOp .Not a pos) (tOf X.K E ps (mNotV ma)) :=
  pe_imp (pe_not h) fun σ H Q ⟨W, Hs, δ, hp, re, po⟩ => testV hp re po fun b Hs1 H1 δ1 e1 re1 po1 => ⟨b, rfl, Post.of po1 re1 _ (.bl _)⟩
def mIfE (t : M Bool) (m1 m2 : M D) : M D := mBind t fun b => if b then m1 else m2
theorem je_if {c : Expr} (hc : PT X c (tOfT X.K E ps t1)) (h : PE X a (tOf X.K E ps ma)) (h2 : PE X b (tOf X.K E ps mb)) : PE X (.IfExp c a b pos) (tOf X.K E ps (mIfE t1 ma mb)) :=
  pe_imp (pe_ifExp hc h h2) fun σ H Q ⟨W, Hs, δ, hp, re, po⟩ => tOfT.step hp re po fun b Hs1 H1 δ1 e1 re1 po1 => by
    cases b with
    | true => exact Cf.last hp re1 po1
    | false => exact Cf.last hp re1 po1
/-- -n -/
def dNeg : D → Option D
  | .int i => some (.int (-i))
  | _ => none
def mNeg (m : M D) : M D := mBind m fun d => mOpt (dNeg d)
theorem je_neg (h : PE X a (tOf X.K E ps ma)) : PE X (.UnaryOp .USub a pos) (tOf X.K E ps (mNeg ma)) :=
  pe_imp (pe_un un_neg h) fun σ H Q ⟨W, Hs, δ, hp, re, po⟩ => tOf.step hp re po fun x d Hs1 H1 δ1 e1 re1 r1 po1 => by
    obtain ⟨c, hc, po3⟩ := Post.opt po1
    cases r1 <;> simp [dNeg] at hc
    subst hc
    exact ⟨_, rfl, Post.of po3 re1 _ (.int _)⟩
variable {c : Expr} {mc : M D}
end
end Dn
namespace Dn
open PySem PySem.Spec PyProof.Rows L2
inductive AM where
  | e (m : M D)
  | o (i : Nat)
def mOwn (i : Nat) : M (List D) := fun δ => match δ[i]? with
  | some (.ow xs) => .ok xs δ
  | _ => .bad
def evA : List AM → M (List Ag)
  | [] => mPure []
  | .e m :: as => mBind m fun d => mBind (evA as) fun gs => mPure (.sh d :: gs)
  | .o i :: as => mBind (mOwn i) fun _ => mBind (evA as) fun gs => mPure (.ow i :: gs)
def shs : List Ag → Option (List D)
  | [] => some []
  | .sh d :: gs => (shs gs).map (d :: ·)
  | .ow _ :: _ => none
section
variable {K : Frag} {W : Wd} {Hs H H' : Hp} {σ : L2.St} {δ : Env} {E : XQ} {ps : List Nat}
theorem shs_rps : ∀ {vs : List V} {gs : List Ag} {ds : List D}, AgR K Hs σ vs gs → shs gs = some ds → Rps K Hs vs ds
  | [], [], ds, _, h => by obtain rfl := Option.some.inj h; exact .nil
  | [], _ :: _, _, h, _ => h.elim
  | _ :: _, [], _, h, _ => h.elim
  | v :: vs, .sh d :: gs, ds, h, q => by
    unfold shs at q
    cases z : shs gs with
    | none => rw [z] at q; simp at q
    | some es =>
      rw [z] at q
      have e : d :: es = ds := by simpa using q
      subst e
      exact .cons h.1 (shs_rps h.2 z)
  | _ :: _, .ow _ :: _, _, _, q => by simp [shs] at q
/-- new things that no name reaches -/
theorem RE.newH (r : RE K W Hs H σ δ) (e : Ex H H') : RE K W Hs H' σ δ :=
  r.grow ⟨Ex.refl _, e, r.ex.trans e, fun _ _ => rfl⟩
/-- a fresh list becomes shared data -/
theorem RE.freeze {a : Addr} {xs : List D} (r : RE K W Hs H σ δ) (f : FrO K W Hs H σ δ a xs) : ∃ Hs', Ex Hs Hs' ∧ RE K W Hs' H σ δ ∧ Rp K Hs' (.ref a) (.list xs) := by
  obtain ⟨vs, h1, h2⟩ := f.at_
  have e : Ex Hs (upd Hs a (.lst vs)) := ex_new f.hs
  refine ⟨upd Hs a (.lst vs), e, ?_, .lst (SqL.of upd_same) (h2.ex e)⟩
  exact {
    ex := fun b o q => by
      by_cases hb : b = a
      · subst hb; rw [upd_same] at q; cases q; exact h1
      · rw [upd_ne hb] at q; exact r.ex b o q
    fg := fun b o q => by
      have hb : b ≠ a := fun z => by rw [z, f.g] at q; cases q
      rw [upd_ne hb]; exact r.fg b o q
    len := r.len
    sh := fun i d q => by
      obtain ⟨v, q1, q2⟩ := r.sh i d q
      exact ⟨v, q1, q2.ex e⟩
    ow := fun i s q w => by
      obtain ⟨b, o, q1, q2, q3, q4, q5⟩ := r.ow i s q w
      have hb : b ≠ a := fun z => f.ne i s q w (z ▸ q1)
      exact ⟨b, o, q1, q2, q3.ex e, by rw [upd_ne hb]; exact q4, q5⟩
    ap := r.ap
    pin := r.pin }
end
section
variable {X : Cx} {E : XQ} {ps : List Nat} {a b e o : Expr} {es : List Expr} {pos : Pos} {ma mb m : M D} {as : List AM}
theorem ja_nil : PA X [] (tOfA X.K E ps (evA [])) := pa_imp pa_nil fun σ H Q ⟨W, Hs, δ, hp, re, po⟩ => Post.of po re [] trivial
def CallS (K : Frag) (r : List V → Hp → VK → Prop) (g : List D → Option D) : Prop := ∀ Hs H vs ds c (Q : VK), Ex Hs H → Rps K Hs vs ds → g ds = some c → (∀ v Hs' H', Gr Hs H Hs' H' → Rp K Hs' v c → Q v H') → r vs H Q
def mCallB (g : List D → Option D) (as : List AM) : M D := mBind (evA as) fun gs => mOpt ((shs gs).bind g)
theorem callS {r : List V → Hp → VK → Prop} {g : List D → Option D} (hr : CallS X.K r g) {σ : L2.St} {H : Hp} {Q : VK} (h : tOf X.K E ps (mCallB g as) σ H Q) : tCB r (tOfA X.K E ps (evA as)) σ H Q := by
  obtain ⟨W, Hs, δ, hp, re, po⟩ := h
  refine tOfA.step hp re po fun vs gs Hs1 H1 δ1 e1 re1 r1 po1 => ?_
  obtain ⟨c, hc, po2⟩ := Post.opt po1
  obtain ⟨ds, h1, h2⟩ := Option.bind_eq_some_iff.mp hc
  exact hr Hs1 H1 vs ds c Q re1.ex (shs_rps r1 h1) h2 fun v Hs' H' g rv => Post.grow po2 re1 g v rv
theorem je_callB {x : Str} {p : Pos} {id : String} {r : List V → Hp → VK → Prop} {g : List D → Option D} (hc : CallR X (.builtin id) r) (hr : CallS X.K r g) (hg : Gl X x) (hm : X.mg x = none) (hv : bootBuiltins x = some (.builtin id)) (ha : PA X (e :: es) (tOfA X.K E ps (evA as))) (hn : x ≠ "__name__" := by decide) (hdb : (x == ("__debug__" : Str)) = false := by decide)
    (he : starEach (e :: es) X.env = (false, eval e X.env) :: starEach es X.env := by rfl) (hpl : (backTo pos (starEach es X.env)).any (·.1) = false := by rfl) : PE X (.Call (.Name x p) (e :: es) [] pos) (tOf X.K E ps (mCallB g as)) :=
  pe_imp (pe_callB hc hg hm hv ha hn hdb he hpl) fun _ _ _ h => callS hr h
theorem je_callTy {x : Str} {p : Pos} {T : String} {r : List V → Hp → VK → Prop} {g : List D → Option D} (hc : CallR X (.type T) r) (hr : CallS X.K r g) (hg : Gl X x) (hm : X.mg x = none) (hv : bootBuiltins x = some (.type T)) (ha : PA X (e :: es) (tOfA X.K E ps (evA as))) (hn : x ≠ "__name__" := by decide) (hdb : (x == ("__debug__" : Str)) = false := by decide)
    (he : starEach (e :: es) X.env = (false, eval e X.env) :: starEach es X.env := by rfl) (hpl : (backTo pos (starEach es X.env)).any (·.1) = false := by rfl) : PE X (.Call (.Name x p) (e :: es) [] pos) (tOf X.K E ps (mCallB g as)) :=
  pe_imp (pe_callTy hc hg hm hv ha hn hdb he hpl) fun _ _ _ h => callS hr h
theorem flat_free {K : Frag} {H H' : Hp} {v : V} {d : D} (r : Rp K H v d) (h : flatD d = true) : Rp K H' v d := by
  cases r with
  | non => exact .non
  | bl b => exact .bl b
  | int i => exact .int i
  | str x => exact .str x
  | _ => simp [flatD] at h
theorem ex_upd {Hs H : Hp} {q : Addr} {u : HO} (e : Ex Hs H) (h : H q = some u) : Ex (upd Hs q u) H := fun c w z => by
  by_cases hc : c = q
  · subst hc; rw [upd_same] at z; cases z; exact h
  · rw [upd_ne hc] at z; exact e c w z
/-- own things lent for a while: what is handed back is flat, so nothing of them stays -/
theorem lent {K : Frag} {W : Wd} {Hs H : Hp} {σ : L2.St} {δ : Env} {i : Nat} {xs : List D} (re : RE K W Hs H σ δ) (hx : δ[i]? = some (Sl.ow xs)) :
    ∃ (q : Addr) (Hb : Hp), σ[i]? = some (some (V.ref q)) ∧ Ex Hs Hb ∧ Ex Hb H ∧ Rp K Hb (.ref q) (.list xs) ∧ H q ≠ none ∧ tyV K "list" (.ref q) H ∧ ∃ vs, H q = some (.lst vs) ∧ Rps K Hs vs xs := by
  obtain ⟨q, u, h1, h2, h3, h4, h5⟩ := re.ow i _ hx rfl
  cases u with
  | lst vs =>
    have e : Ex Hs (upd Hs q (.lst vs)) := ex_new h4
    exact ⟨q, upd Hs q (.lst vs), h1, e, ex_upd re.ex h2, .lst (SqL.of upd_same) (Rps.ex e h3), by rw [h2]; simp, .inl ⟨rfl, vs, .inl (.inl h2)⟩, vs, h2, h3⟩
  | _ => exact h3.elim
def bLen : List D → Option D
  | [.str z] => if z.length ≤ sizeLine then some (.int z.length) else none
  | [.list xs] => some (.int xs.length)
  | [.tuple xs] => some (.int xs.length)
  | _ => none
def rLenA (K : Frag) : List V → Hp → VK → Prop := fun xs H Q => (∃ p ys, xs = [.ref p] ∧ (SqL K H p ys ∨ SqT K H p ys) ∧ Q (.int ys.length) H) ∨ ∃ z, xs = [.str z] ∧ z.length ≤ sizeLine ∧ Q (.int z.length) H
theorem call_lenA : CallR X (.builtin "len") (rLenA X.K) := call_len_seq.or call_len_str
theorem cs_len {K : Frag} : CallS K (rLenA K) bLen := fun Hs H vs ds c Q ex t hg k => by
  cases t with
  | nil => simp [bLen] at hg
  | cons r t =>
    cases t with
    | cons _ _ => cases r <;> simp [bLen] at hg
    | nil =>
      cases r with
      | str z =>
        simp only [bLen, Option.ite_none_right_eq_some, Option.some.injEq] at hg
        obtain ⟨hl, hg⟩ := hg
        subst hg
        exact .inr ⟨z, rfl, hl, k _ Hs H (.refl ex) (.int _)⟩
      | lst h t =>
        obtain rfl := Option.some.inj hg
        exact .inl ⟨_, _, rfl, .inl (sqL_ex ex h), by rw [t.length]; exact k _ Hs H (.refl ex) (.int _)⟩
      | tup h t =>
        obtain rfl := Option.some.inj hg
        exact .inl ⟨_, _, rfl, .inr (sqT_ex ex h), by rw [t.length]; exact k _ Hs H (.refl ex) (.int _)⟩
      | _ => simp [bLen] at hg
def bInt : List D → Option D
  | [.int i] => some (.int i)
  | [.bool b] => some (.int (if b then 1 else 0))
  | _ => none
theorem cs_int {K : Frag} : CallS K (fun xs H Q => (∃ i, xs = [.int i] ∧ Q (.int i) H) ∨ ∃ k, xs = [.bl k] ∧ Q (.int (if k then 1 else 0)) H) bInt := fun Hs H vs ds c Q ex t hg k => by
  cases t with
  | nil => simp [bInt] at hg
  | cons r t =>
    cases t with
    | cons _ _ => cases r <;> simp [bInt] at hg
    | nil =>
      cases r with
      | int i =>
        obtain rfl := Option.some.inj hg
        exact .inl ⟨i, rfl, k _ Hs H (.refl ex) (.int _)⟩
      | bl b =>
        obtain rfl := Option.some.inj hg
        exact .inr ⟨b, rfl, k _ Hs H (.refl ex) (.int _)⟩
      | _ => simp [bInt] at hg
def bII (f : Int → Int → Int) : List D → Option D
  | [.int i, .int j] => some (.int (f i j))
  | _ => none
theorem cs_II {K : Frag} {f : Int → Int → Int} : CallS K (fun xs H Q => ∃ i j, xs = [.int i, .int j] ∧ Q (.int (f i j)) H) (bII f) := fun Hs H vs ds c Q ex t hg k => by
  cases t with
  | nil => simp [bII] at hg
  | cons r t =>
    cases t with
    | nil => cases r <;> simp [bII] at hg
    | cons r' t =>
      cases t with
      | cons _ _ => cases r <;> cases r' <;> simp [bII] at hg
      | nil =>
        cases r <;> cases r' <;> simp [bII] at hg
        subst hg
        exact ⟨_, _, rfl, k _ Hs H (.refl ex) (.int _)⟩
def bTuple : List D → Option D
  | [.list xs] => some (.tuple xs)
  | [.tuple xs] => some (.tuple xs)
  | _ => none
theorem cs_tuple {K : Frag} : CallS K (fun xs H Q => ∃ p ys, xs = [.ref p] ∧ ((SqL K H p ys ∧ ∀ l, H l = none → Q (.ref l) (upd H l (.tup ys))) ∨ (SqT K H p ys ∧ Q (.ref p) H))) bTuple := fun Hs H vs ds c Q ex t hg k => by
  cases t with
  | nil => simp [bTuple] at hg
  | cons r t =>
    cases t with
    | cons _ _ => cases r <;> simp [bTuple] at hg
    | nil =>
      cases r with
      | lst h t =>
        obtain rfl := Option.some.inj hg
        exact ⟨_, _, rfl, .inl ⟨sqL_ex ex h, fun p hp => k _ _ _ (Gr.new ex hp) (.tup (StT.of upd_same) (t.ex (Gr.new ex hp).s))⟩⟩
      | tup h t =>
        obtain rfl := Option.some.inj hg
        exact ⟨_, _, rfl, .inr ⟨sqT_ex ex h, k _ Hs H (.refl ex) (.tup h t)⟩⟩
      | _ => simp [bTuple] at hg
def bList : List D → Option D
  | [.list xs] => some (.list xs)
  | [.tuple xs] => some (.list xs)
  | _ => none
theorem cs_list {K : Frag} : CallS K (fun xs H Q => ∃ p ys, xs = [.ref p] ∧ (SqL K H p ys ∨ SqT K H p ys) ∧ ∀ l, H l = none → Q (.ref l) (upd H l (.lst ys))) bList := fun Hs H vs ds c Q ex t hg k => by
  cases t with
  | nil => simp [bList] at hg
  | cons r t =>
    cases t with
    | cons _ _ => cases r <;> simp [bList] at hg
    | nil =>
      cases r with
      | lst h t =>
        obtain rfl := Option.some.inj hg
        exact ⟨_, _, rfl, .inl (sqL_ex ex h), fun p hp => k _ _ _ (Gr.new ex hp) (.lst (SqL.of upd_same) (t.ex (Gr.new ex hp).s))⟩
      | tup h t =>
        obtain rfl := Option.some.inj hg
        exact ⟨_, _, rfl, .inr (sqT_ex ex h), fun p hp => k _ _ _ (Gr.new ex hp) (.lst (SqL.of upd_same) (t.ex (Gr.new ex hp).s))⟩
      | _ => simp [bList] at hg
def toIs : List D → Option (List Int)
  | [] => some []
  | .int b :: r => (toIs r).map (b :: ·)
  | _ :: _ => none
theorem toIs_eq : ∀ {ds : List D} {bs : List Int}, toIs ds = some bs → ds = bs.map PyData.int
  | [], bs, h => by obtain rfl := Option.some.inj h; rfl
  | d :: r, bs, h => by
    cases d with
    | int b =>
      unfold toIs at h
      cases z : toIs r with
      | none => rw [z] at h; simp at h
      | some cs =>
        rw [z] at h
        have e : b :: cs = bs := by simpa using h
        subst e
        rw [List.map_cons, toIs_eq z]
    | _ => simp [toIs] at h
def toSs : List D → Option (List Str)
  | [] => some []
  | .str b :: r => (toSs r).map (b :: ·)
  | _ :: _ => none
theorem toSs_eq : ∀ {ds : List D} {bs : List Str}, toSs ds = some bs → ds = bs.map PyData.str
  | [], bs, h => by obtain rfl := Option.some.inj h; rfl
  | d :: r, bs, h => by
    cases d with
    | str b =>
      unfold toSs at h
      cases z : toSs r with
      | none => rw [z] at h; simp at h
      | some cs =>
        rw [z] at h
        have e : b :: cs = bs := by simpa using h
        subst e
        rw [List.map_cons, toSs_eq z]
    | _ => simp [toSs] at h
def bSum : List D → Option D
  | [.list xs] => (toIs xs).map fun ns => .int ns.sum
  | _ => none
theorem cs_sum {K : Frag} : CallS K (rSum K) bSum := fun Hs H vs ds c Q ex t hg k => by
  cases t with
  | nil => simp [bSum] at hg
  | cons r t =>
    cases t with
    | cons _ _ => cases r <;> simp [bSum] at hg
    | nil =>
      cases r with
      | lst h t =>
        simp only [bSum, Option.map_eq_some_iff] at hg
        obtain ⟨bs, h1, h2⟩ := hg
        subst h2
        have e := toIs_eq h1
        subst e
        have e2 := t.ints
        subst e2
        exact ⟨_, bs, rfl, sqL_ex ex h, k _ Hs H (.refl ex) (.int _)⟩
      | _ => simp [bSum] at hg
def tyD : D → String
  | .none => "NoneType"
  | .bool _ => "bool"
  | .int _ => "int"
  | .str _ => "str"
  | .list _ => "list"
  | .tuple _ => "tuple"
  | .dict _ => "dict"
theorem ty_of {K : Frag} {Hs H : Hp} {v : V} {d : D} (ex : Ex Hs H) (r : Rp K Hs v d) : TyX K H v (.type (tyD d)) := by
  cases r with
  | non => exact .base .non
  | bl b => exact .base (.bl b)
  | int i => exact .base (.int i)
  | str x => exact .base (.str x)
  | lst h t =>
    rcases sqL_ex ex h with (h | ⟨o, h⟩) | ⟨o, its, n, h1, h2, _⟩
    · exact .base (.lst h)
    · exact .base (.frz h)
    · exact .kList h1 h2
  | tup h t =>
    rcases sqT_ex ex h with (h | ⟨o, h⟩) | ⟨o, its, n, h1, h2, _⟩
    · exact .base (.tup h)
    · exact .fTuple h
    · exact .kTuple h1 h2
def mIsi (T : String) (m : M D) : M D := mBind m fun d => mOpt ((kitB (tyD d) T).map PyData.bool)
theorem je_isi {T : Str} {T' : String} {p p' : Pos} (h : PE X e (tOf X.K E ps m)) (hg : Gl X "isinstance") (hm : X.mg "isinstance" = none) (hgT : Gl X T) (hmT : X.mg T = none) (hvT : bootBuiltins T = some (.type T')) (hnT : T ≠ "__name__" := by decide) (hdT : (T == ("__debug__" : Str)) = false := by decide)
    (he : starEach (e :: [.Name T p']) X.env = (false, eval e X.env) :: starEach [.Name T p'] X.env := by rfl) (he2 : starEach [.Name T p'] X.env = (false, eval (.Name T p') X.env) :: starEach [] X.env := by rfl) (hpl : (backTo pos (starEach [.Name T p'] X.env)).any (·.1) = false := by rfl) :
    PE X (.Call (.Name "isinstance" p) [e, .Name T p'] [] pos) (tOf X.K E ps (mIsi T' m)) :=
  pe_imp (pe_callB call_isi hg hm (by decide +kernel) (pa_cons h (pa_cons (pe_bltn (v := .ty T') hgT hmT hvT rfl hnT hdT) pa_nil he2) he) (by decide) (by decide) he hpl) fun σ H Q ⟨W, Hs, δ, hp, re, po⟩ => by
    refine tOf.step hp re po fun v d Hs1 H1 δ1 e1 re1 r1 po1 => ?_
    obtain ⟨c, hc, po2⟩ := Post.opt po1
    obtain ⟨b, hb, hc⟩ := Option.map_eq_some_iff.mp hc
    subst hc
    exact ⟨v, .ty T', _, _, b, rfl, .ty T', ty_of re1.ex r1, kit_ty hb, Post.of po2 re1 _ (.bl b)⟩
def MtS (K : Frag) (r : V → List V → Hp → VK → Prop) (g : Str → List D → Option D) : Prop := ∀ Hs H z vs ds c (Q : VK), Ex Hs H → Rps K Hs vs ds → g z ds = some c → (∀ v Hs' H', Gr Hs H Hs' H' → Rp K Hs' v c → Q v H') → r (.str z) vs H Q
def toS : D → Option Str
  | .str z => some z
  | _ => none
def mM1 (g : Str → List D → Option D) (mo m : M D) : M D := mBind mo fun d => mBind (mOpt (toS d)) fun z => mBind m fun e => mOpt (g z [e])
theorem optB {K : Frag} {W : Wd} {Hs : Hp} {σ : L2.St} {δ : Env} {α β : Type} {oa : Option α} {f : α → M β} {QQ : β → Hp → Hp → Env → Prop} (po : Post K E W Hs σ (mBind (mOpt oa) f δ) QQ) : ∃ a, oa = some a ∧ Post K E W Hs σ (f a δ) QQ := by
  cases oa with
  | none => exact po.elim
  | some a => exact ⟨a, rfl, po⟩
theorem je_m1 {id : String} {name : Str} {apos pos : Pos} {r : V → List V → Hp → VK → Prop} {g : Str → List D → Option D} (slot : Slot "str" name id) (ty : typeOf (.builtin id) = pure (.type "method_descriptor")) (rule : MtR X id r) (hr : MtS X.K r g) (ho : PE X o (tOf X.K E ps ma)) (he : PE X e (tOf X.K E ps m))
    (hs : starEach [e] X.env = [(false, eval e X.env)] := by rfl) (hbase : attributeBase o name X.env (eval o X.env) = eval o X.env := by rfl) (hline : (apos.endLine == pos.line) = true := by rfl) : PE X (.Call (.Attribute o name apos) [e] [] pos) (tOf X.K E ps (mM1 g ma m)) :=
  pe_imp (pe_m1 slot ty rule ho he hs hbase hline) fun σ H Q ⟨W, Hs, δ, hp, re, po⟩ => by
    refine tOf.step hp re po fun v d Hs1 H1 δ1 e1 re1 r1 po1 => ?_
    obtain ⟨z, hz, po2⟩ := optB po1
    cases r1 <;> simp [toS] at hz
    subst hz
    refine ⟨⟨_, rfl⟩, tOf.step hp re1 po2 fun w c Hs2 H2 δ2 e2 re2 r2 po3 => ?_⟩
    obtain ⟨c', hc, po4⟩ := Post.opt po3
    exact hr Hs2 H2 _ _ _ c' Q re2.ex (.cons r2 .nil) hc fun v Hs' H' g rv => Post.grow po4 re2 g v rv
def sSplit (z : Str) : List D → Option D
  | [.str b] => if (b.length == 0) = false ∧ z.length + 2 ≤ sizeLine then some (.list ((Txt.split z b).map PyData.str)) else none
  | _ => none
theorem ms_split {K : Frag} : MtS K (fun x xs H Q => ∃ a b, x = .str a ∧ xs = [.str b] ∧ (b.length == 0) = false ∧ a.length + 2 ≤ sizeLine ∧ rNewStrs (Txt.split a b) H Q) sSplit := fun Hs H z vs ds c Q ex t hg k => by
  cases t with
  | nil => simp [sSplit] at hg
  | cons r t =>
    cases t with
    | cons _ _ => cases r <;> simp [sSplit] at hg
    | nil =>
      cases r with
      | str b =>
        simp only [sSplit, Option.ite_none_right_eq_some, Option.some.injEq] at hg
        obtain ⟨⟨h1, h2⟩, hg⟩ := hg
        subst hg
        exact ⟨z, b, rfl, rfl, h1, h2, fun p hp => k _ _ _ (Gr.new ex hp) (.lst (SqL.of upd_same) (Rps.of_strs _))⟩
      | _ => simp [sSplit] at hg
def joinN (z : Str) (ys : List Str) : Nat := (ys.map (·.length)).sum + ys.length * z.length
def sJoin (z : Str) : List D → Option D
  | [.list xs] => (toSs xs).bind fun ys => if joinN z ys ≤ 16777216 then some (.str (Txt.join z ys)) else none
  | [.tuple xs] => (toSs xs).bind fun ys => if joinN z ys ≤ 16777216 then some (.str (Txt.join z ys)) else none
  | _ => none
theorem ms_join {K : Frag} : MtS K (fun x xs H Q => ∃ a p, ∃ ys : List Str, x = .str a ∧ xs = [.ref p] ∧ (SqL K H p (ys.map V.str) ∨ SqT K H p (ys.map V.str)) ∧ (ys.map (·.length)).sum + ys.length * a.length ≤ 16777216 ∧ Q (.str (Txt.join a ys)) H) sJoin := fun Hs H z vs ds c Q ex t hg k => by
  cases t with
  | nil => simp [sJoin] at hg
  | cons r t =>
    cases t with
    | cons _ _ => cases r <;> simp [sJoin] at hg
    | nil =>
      have fin : ∀ {xs : List D}, ((toSs xs).bind fun ys => if joinN z ys ≤ 16777216 then some (.str (Txt.join z ys)) else none) = some c → ∃ ys, xs = ys.map PyData.str ∧ (ys.map (·.length)).sum + ys.length * z.length ≤ 16777216 ∧ c = .str (Txt.join z ys) := fun {xs} h => by
        obtain ⟨ys, h1, h2⟩ := Option.bind_eq_some_iff.mp h
        simp only [Option.ite_none_right_eq_some, Option.some.injEq] at h2
        exact ⟨ys, toSs_eq h1, h2.1, h2.2.symm⟩
      cases r with
      | lst h t =>
        obtain ⟨ys, e1, e2, e3⟩ := fin hg
        subst e1; subst e3
        have e4 := t.strs
        subst e4
        exact ⟨z, _, ys, rfl, rfl, .inl (sqL_ex ex h), e2, k _ Hs H (.refl ex) (.str _)⟩
      | tup h t =>
        obtain ⟨ys, e1, e2, e3⟩ := fin hg
        subst e1; subst e3
        have e4 := t.strs
        subst e4
        exact ⟨z, _, ys, rfl, rfl, .inr (sqT_ex ex h), e2, k _ Hs H (.refl ex) (.str _)⟩
      | _ => simp [sJoin] at hg
def mShs (as : List AM) : M (List D) := mBind (evA as) fun gs => mOpt ((shs gs).filter fun ds => decide (ds.length ≤ sizeLine))
def mTup (as : List AM) : M D := mBind (mShs as) fun ds => mPure (.tuple ds)
def mLst (as : List AM) : M D := mBind (mShs as) fun ds => mPure (.list ds)
theorem mShs_step {W : Wd} {Hs H : Hp} {σ : L2.St} {δ : Env} {β : Type} {f : List D → M β} {QQ : β → Hp → Hp → Env → Prop} {K : Frag} {R : List V → Hp → Prop} (hp : W.pn.map (·.1) = ps) (re : RE K W Hs H σ δ) (po : Post K E W Hs σ (mBind (mShs as) f δ) QQ)
    (k : ∀ vs ds Hs1 H1 δ1, Ex Hs Hs1 → RE K W Hs1 H1 σ δ1 → Rps K Hs1 vs ds → vs.length ≤ sizeLine → Post K E W Hs1 σ (f ds δ1) QQ → R vs H1) : tOfA K E ps (evA as) σ H R := by
  have po' : Post K E W Hs σ (mBind (evA as) (fun gs => mBind (mOpt ((shs gs).filter fun ds => decide (ds.length ≤ sizeLine))) f) δ) QQ := by
    have e : mBind (mShs as) f δ = mBind (evA as) (fun gs => mBind (mOpt ((shs gs).filter fun ds => decide (ds.length ≤ sizeLine))) f) δ := by
      unfold mShs mBind
      cases evA as δ <;> rfl
    rw [← e]; exact po
  refine tOfA.step hp re po' fun vs gs Hs1 H1 δ1 e1 re1 r1 po1 => ?_
  obtain ⟨ds, hc, po2⟩ := optB po1
  obtain ⟨h1, h2⟩ := Option.filter_eq_some_iff.mp hc
  have t := shs_rps r1 h1
  exact k vs ds Hs1 H1 δ1 e1 re1 t (by rw [t.length]; exact of_decide_eq_true h2) po2
theorem je_tup {x1} (h : PA X es (tOfA X.K E ps (evA as))) : PE X (.Tuple es x1 pos) (tOf X.K E ps (mTup as)) :=
  pe_imp (pe_tup h) fun σ H Q ⟨W, Hs, δ, hp, re, po⟩ => mShs_step hp re po fun vs ds Hs1 H1 δ1 e1 re1 t hl po1 => ⟨hl, fun p hpn =>
    Post.grow po1 re1 (Gr.new re1.ex hpn) _ (.tup (StT.of upd_same) (t.ex (Gr.new re1.ex hpn).s))⟩
theorem je_lst (h : PA X es (tOfA X.K E ps (evA as))) : PE X (.List es pos) (tOf X.K E ps (mLst as)) :=
  pe_imp (pe_lst h) fun σ H Q ⟨W, Hs, δ, hp, re, po⟩ => mShs_step hp re po fun vs ds Hs1 H1 δ1 e1 re1 t hl po1 => ⟨hl, fun p hpn =>
    Post.grow po1 re1 (Gr.new re1.ex hpn) _ (.lst (SqL.of upd_same) (t.ex (Gr.new re1.ex hpn).s))⟩
theorem jo_lst (h : PA X es (tOfA X.K E ps (evA as))) : PE X (.List es pos) (tOfO X.K E ps (mShs as)) :=
  pe_imp (pe_lst h) fun σ H Q ⟨W, Hs, δ, hp, re, po⟩ => by
    have po' : Post X.K E W Hs σ (mBind (mShs as) mPure δ) fun xs Hs' H' δ' => ∀ a, FrO X.K W Hs' H' σ δ' a xs → Q (.ref a) H' := by
      have e : mBind (mShs as) mPure δ = mShs as δ := by unfold mBind mPure; cases mShs as δ <;> rfl
      rw [e]; exact po
    refine mShs_step hp re po' fun vs ds Hs1 H1 δ1 e1 re1 t hl po1 => ⟨hl, fun p hpn => ?_⟩
    have en : Ex H1 (upd H1 p (.lst vs)) := ex_new hpn
    refine Post.of po1 (re1.newH en) p ⟨⟨vs, upd_same, t⟩, ex_none re1.ex hpn, ?_, fun i s q w z => ?_⟩
    · cases q : W.G p with
      | none => rfl
      | some u => have := (re1.fg p u q).1; rw [hpn] at this; cases this
    · obtain ⟨a, u, h1, h2, _⟩ := re1.ow i s q w
      rw [h1] at z
      cases z
      rw [hpn] at h2; cases h2
end
end Dn
namespace Dn
open PySem PySem.Spec PyProof.Rows L2
inductive Fl where
  | nx
  | rt (s : Sl)
  | bk
  | ct
def FlOk (K : Frag) (W : Wd) (B : Ends) (fl : Fl) (σ : L2.St) (Hs H : Hp) (δ : Env) : Prop := match fl with
  | .nx => B.nx σ H
  | .bk => B.bk σ H
  | .ct => B.ct σ H
  | .rt (.sh d) => ∀ v, Rp K Hs v d → B.rt v H
  | .rt (.ow xs) => ∀ a, FrO K W Hs H σ δ a xs → B.rt (.ref a) H
  | .rt .no => False
def PostS (K : Frag) (E : XQ) (W : Wd) (Hs : Hp) (r : Res Fl) (B : Ends) (b : Wd → Fl → L2.St → Hp → Hp → Env → Prop) : Prop := match r with
  | .ok fl δ' => ∀ σ' Hs' H', Ex Hs Hs' → RE K W Hs' H' σ' δ' → b W fl σ' Hs' H' δ'
  | .exc x δ' => ∀ σ' Hs' H', Ex Hs Hs' → RE K W Hs' H' σ' δ' → E x σ' H'
  | .bad => False
abbrev PostF (K : Frag) (E : XQ) (W : Wd) (Hs : Hp) (r : Res Fl) (B : Ends) : Prop := PostS K E W Hs r B fun W fl σ' Hs' H' δ' => FlOk K W B fl σ' Hs' H' δ'
theorem PostS.ex {K : Frag} {E : XQ} {W : Wd} {Hs Hs1 : Hp} {r : Res Fl} {B : Ends} {b : Wd → Fl → L2.St → Hp → Hp → Env → Prop} (h : PostS K E W Hs r B b) (e : Ex Hs Hs1) : PostS K E W Hs1 r B b := by
  cases r with
  | ok a δ' => exact fun σ' Hs' H' e' r => h σ' Hs' H' (e.trans e') r
  | exc x δ' => exact fun σ' Hs' H' e' r => h σ' Hs' H' (e.trans e') r
  | bad => exact h
def tOfS (K : Frag) (E : XQ) (ps : List Nat) (m : M Fl) : TS := fun B σ H => ∃ (W : Wd) (Hs : Hp) (δ : Env), W.pn.map (·.1) = ps ∧ RE K W Hs H σ δ ∧ PostF K E W Hs (m δ) B
section
variable {K : Frag} {E : XQ} {ps : List Nat} {W : Wd} {Hs H : Hp} {σ : L2.St} {δ : Env} {B : Ends}
theorem Cf.stepS {α : Type} {ma : M α} {f : α → M Fl} {R : Wd → α → Hp → Hp → Env → Prop} (hp : W.pn.map (·.1) = ps) (re : RE K W Hs H σ δ) (po : PostF K E W Hs (mBind ma f δ) B)
    (k : ∀ a Hs1 H1 δ1, Ex Hs Hs1 → RE K W Hs1 H1 σ δ1 → PostF K E W Hs1 (f a δ1) B → R W a Hs1 H1 δ1) : Cf K E ps ma σ H R := by
  refine ⟨W, Hs, δ, hp, re, ?_⟩
  unfold mBind at po
  cases h : ma δ with
  | ok a δ1 =>
    rw [h] at po
    exact fun Hs' H' e r => k a Hs' H' δ1 e r (PostS.ex po e)
  | exc x δ1 =>
    rw [h] at po
    exact fun Hs' H' e r => po σ Hs' H' e r
  | bad =>
    rw [h] at po
    exact po
theorem tOf.stepS {ma : M D} {f : D → M Fl} {R : V → Hp → Prop} (hp : W.pn.map (·.1) = ps) (re : RE K W Hs H σ δ) (po : PostF K E W Hs (mBind ma f δ) B)
    (k : ∀ v d Hs1 H1 δ1, Ex Hs Hs1 → RE K W Hs1 H1 σ δ1 → Rp K Hs1 v d → PostF K E W Hs1 (f d δ1) B → R v H1) : tOf K E ps ma σ H R :=
  Cf.stepS hp re po fun d Hs1 H1 δ1 e r p v rv => k v d Hs1 H1 δ1 e r rv p
theorem tOfO.stepS {ma : M (List D)} {f : List D → M Fl} {R : V → Hp → Prop} (hp : W.pn.map (·.1) = ps) (re : RE K W Hs H σ δ) (po : PostF K E W Hs (mBind ma f δ) B)
    (k : ∀ a xs Hs1 H1 δ1, Ex Hs Hs1 → RE K W Hs1 H1 σ δ1 → FrO K W Hs1 H1 σ δ1 a xs → PostF K E W Hs1 (f xs δ1) B → R (.ref a) H1) : tOfO K E ps ma σ H R :=
  Cf.stepS hp re po fun xs Hs1 H1 δ1 e r p a fa => k a xs Hs1 H1 δ1 e r fa p
theorem PostS.of {fl : Fl} {b : Wd → Fl → L2.St → Hp → Hp → Env → Prop} (po : PostS K E W Hs (.ok fl δ) B b) (re : RE K W Hs H σ δ) : b W fl σ Hs H δ := po σ Hs H (Ex.refl _) re
theorem optF {α : Type} {oa : Option α} {f : α → M Fl} (po : PostF K E W Hs (mBind (mOpt oa) f δ) B) : ∃ a, oa = some a ∧ PostF K E W Hs (f a δ) B := by
  cases oa with
  | none => exact po.elim
  | some a => exact ⟨a, rfl, po⟩
theorem mOwn_postF {i : Nat} {f : List D → M Fl} (po : PostF K E W Hs (mBind (mOwn i) f δ) B) : ∃ xs, δ[i]? = some (Sl.ow xs) ∧ PostF K E W Hs (f xs δ) B := by
  unfold mBind mOwn at po
  split at po
  · rename_i a e' h
    split at h
    · rename_i xs hx
      cases h
      exact ⟨_, hx, po⟩
    · cases h
  · rename_i x e' h
    split at h <;> cases h
  · exact po.elim
end
section
variable {X : Cx} {E : XQ} {ps : List Nat} {a b e : Expr} {st : Stmt} {rest : List Stmt} {pos : Pos} {m : M D} {mo : M (List D)} {m1 m2 : M Fl}
def mSeq (m1 m2 : M Fl) : M Fl := fun δ => match m1 δ with
  | .ok .nx δ' => m2 δ'
  | r => r
def mNx : M Fl := mPure .nx
theorem jss_nil : PSs X [] (tOfS X.K E ps mNx) := pss_imp pss_nil fun B σ H ⟨W, Hs, δ, hp, re, po⟩ => PostS.of po re
theorem jss_one (h : PS X st (tOfS X.K E ps m1)) : PSs X [st] (tOfS X.K E ps m1) := pss_one h
theorem jss_cons (h : PS X st (tOfS X.K E ps m1)) (t : PSs X rest (tOfS X.K E ps m2)) : PSs X (st :: rest) (tOfS X.K E ps (mSeq m1 m2)) :=
  pss_imp (pss_cons h t) fun B σ H ⟨W, Hs, δ, hp, re, po⟩ => by
    refine ⟨W, Hs, δ, hp, re, ?_⟩
    unfold mSeq at po
    cases q : m1 δ with
    | ok fl δ1 =>
      rw [q] at po
      cases fl with
      | nx => exact fun σ' Hs' H' e r => ⟨W, Hs', δ1, hp, r, PostS.ex po e⟩
      | rt s => cases s <;> exact po
      | bk => exact po
      | ct => exact po
    | exc x δ1 =>
      rw [q] at po
      exact po
    | bad =>
      rw [q] at po
      exact po
def mExpr (m : M D) : M Fl := mBind m fun _ => mNx
def mRet (m : M D) : M Fl := mBind m fun d => mPure (.rt (.sh d))
theorem js_ret (h : PE X e (tOf X.K E ps m)) : PS X (.Return (some e) pos) (tOfS X.K E ps (mRet m)) :=
  pst_imp (ps_ret h) fun B σ H ⟨W, Hs, δ, hp, re, po⟩ => tOf.stepS hp re po fun v d Hs1 H1 δ1 e1 re1 r1 po1 => PostS.of po1 re1 v r1
def mIfS (t : M Bool) (m1 m2 : M Fl) : M Fl := mBind t fun b => if b then m1 else m2
theorem js_if {c : Expr} {sa sb : List Stmt} {t : M Bool} (hc : PT X c (tOfT X.K E ps t)) (h1 : PSs X sa (tOfS X.K E ps m1)) (h2 : PSs X sb (tOfS X.K E ps m2)) : PS X (.If c sa sb pos) (tOfS X.K E ps (mIfS t m1 m2)) :=
  pst_imp (ps_if hc h1 h2) fun B σ H ⟨W, Hs, δ, hp, re, po⟩ => Cf.stepS hp re po fun b Hs1 H1 δ1 e1 re1 po1 => by
    cases b with
    | true => exact ⟨W, Hs1, δ1, hp, re1, po1⟩
    | false => exact ⟨W, Hs1, δ1, hp, re1, po1⟩
/-- x = e -/
def mSet (i : Nat) (m : M D) : M Fl := mBind m fun d => fun δ => .ok .nx (δ.set i (.sh d))
theorem js_set {i : Nat} {x : Str} {pos' : Pos} (hps : i ∉ ps) (hN : X.N.Nodup) (hi : X.N[i]? = some x) (hx : Loc X.env.scope x) (h : PE X e (tOf X.K E ps m)) (hs : swapsWith e (some (.Name x pos')) pos.line X.env = pure false := by rfl) (hf : X.fn x = true ∨ X.env.scope.names.lookup x = some .local := by first | exact .inl rfl | exact .inr rfl | assumption) :
    PS X (.Assign [.Name x pos'] e pos) (tOfS X.K E ps (mSet i m)) :=
  pst_imp (ps_set hN hi hx h hs hf) fun B σ H ⟨W, Hs, δ, hp, re, po⟩ => tOf.stepS hp re po fun v d Hs1 H1 δ1 e1 re1 r1 po1 => PostS.of po1 (re1.setSh r1 (by rw [hp]; exact hps))
/-- x[i] = e, x a list of one's own -/
def mSetIx (k : Nat) (mi me : M D) : M Fl := mBind me fun d => mBind (mOwn k) fun _ => mBind mi fun e => mBind (mOwn k) fun xs => mBind (mOpt (toI e)) fun n => mBind (mOpt (n.bind fun n => ixN xs.length n)) fun j => fun δ => .ok .nx (δ.set k (.ow (xs.set j d)))
theorem js_setIx {k : Nat} {x : Str} {p p' : Pos} {i v : Expr} {mi me : M D} (hN : X.N[k]? = some x) (hv : Vis X.env.scope x) (he : PE X v (tOf X.K E ps me)) (hi : PE X i (tOf X.K E ps mi)) (hd : (x == ("__debug__" : Str)) = false := by decide) (hcd : (x == ("__classdict__" : Str)) = false := by decide)
    (ha : ∀ v, assign (.Subscript (.Name x p) i p') X.env v = (do
      let ov ← holding [v] (eval (.Name x p) X.env)
      let iv ← holding [v, ov] (eval i X.env)
      standAt p'
      holding [v, ov, iv] (setItem ov iv v)
      release [v, ov, iv] []) := by intro _; rfl)
    (hs : swapsWithSole [.Subscript (.Name x p) i p'] v pos.line X.env = pure false := by rfl) (hw : swappedStores [.Subscript (.Name x p) i p'] v X.env = pure none := by rfl)
    (h1 : (assignEach [.Subscript (.Name x p) i p'] X.env).map (·.2) = [assign (.Subscript (.Name x p) i p') X.env] := by rfl) : PS X (.Assign [.Subscript (.Name x p) i p'] v pos) (tOfS X.K E ps (mSetIx k mi me)) :=
  pst_imp (ps_asg he (pg_sub (pe_var hN hv hd hcd) hi set_list ha) hs hw h1) fun B σ H ⟨W, Hs, δ, hp, re, po⟩ => by
    refine tOf.stepS hp re po fun w d Hs1 H1 δ1 e1 re1 r1 po1 => ?_
    obtain ⟨xs, hx, po2⟩ := mOwn_postF po1
    obtain ⟨q, Hb, g1, _⟩ := lent re1 hx
    refine ⟨_, g1, tOf.stepS hp re1 po2 fun u c Hs2 H2 δ2 e2 re2 r2 po3 => ?_⟩
    obtain ⟨xs', hx', po4⟩ := mOwn_postF po3
    obtain ⟨q', Hb', g1', _, _, _, _, _, vs, g7, g8⟩ := lent re2 hx'
    have eq : q' = q := by rw [g1] at g1'; cases g1'; rfl
    subst eq
    obtain ⟨n, hn, po5⟩ := optF po4
    obtain ⟨j, hj, po6⟩ := optF po5
    cases r2 <;> simp [toI] at hn
    subst hn
    simp only [Option.bind_some] at hj
    refine ⟨q', vs, _, j, rfl, rfl, g7, by rw [g8.length]; exact hj, ?_⟩
    exact PostS.of po6 (re2.write hx' rfl g1 (s := .ow (xs'.set j d)) rfl (Rps.set (r1.ex e2) j g8))
/-- x.append(e) -/
def mApp (k : Nat) (me : M D) : M Fl := mBind (mOwn k) fun _ => mBind me fun d => mBind (mOwn k) fun xs => mBind (mOpt (if xs.length < sizeLine then some () else none)) fun _ => fun δ => .ok .nx (δ.set k (.ow (xs ++ [d])))
theorem js_app {k : Nat} {x : Str} {p apos cpos : Pos} {v : Expr} {me : M D} (hN : X.N[k]? = some x) (hv : Vis X.env.scope x) (he : PE X v (tOf X.K E ps me)) (hd : (x == ("__debug__" : Str)) = false := by decide) (hcd : (x == ("__classdict__" : Str)) = false := by decide)
    {PE0 : PE X (.Call (.Attribute (.Name x p) "append" apos) [v] [] cpos) (tBM X.K "list" rAppend (tVar k) (tCons (tOf X.K E ps me) tNil))}
    (hs : swapsWith (.Call (.Attribute (.Name x p) "append" apos) [v] [] cpos) none pos.line X.env = pure false := by rfl) : PS X (.Expr (.Call (.Attribute (.Name x p) "append" apos) [v] [] cpos) pos) (tOfS X.K E ps (mApp k me)) :=
  pst_imp (ps_expr PE0 hs) fun B σ H ⟨W, Hs, δ, hp, re, po⟩ => by
    obtain ⟨xs, hx, po1⟩ := mOwn_postF po
    obtain ⟨q, Hb, g1, _, _, _, _, g6, _⟩ := lent re hx
    refine ⟨_, g1, g6, tOf.stepS hp re po1 fun w d Hs1 H1 δ1 e1 re1 r1 po2 => ?_⟩
    obtain ⟨xs', hx', po3⟩ := mOwn_postF po2
    obtain ⟨q', Hb', g1', _, _, _, _, _, vs, g7, g8⟩ := lent re1 hx'
    have eq : q' = q := by rw [g1] at g1'; cases g1'; rfl
    subst eq
    obtain ⟨_, hl, po4⟩ := optF po3
    have hlt : xs'.length < sizeLine := by
      by_cases h : xs'.length < sizeLine
      · exact h
      · rw [if_neg h] at hl; cases hl
    refine ⟨q', vs, w, rfl, rfl, g7, by rw [g8.length]; exact hlt, ?_⟩
    exact PostS.of po4 (re1.write hx' rfl g1 (s := .ow (xs' ++ [d])) rfl (g8.snoc r1))
def PostG (r : Res Unit) (Q : Env → Prop) : Prop := match r with
  | .ok _ δ' => Q δ'
  | _ => False
def rBind (r : Res Unit) (f : Env → Res Unit) : Res Unit := match r with
  | .ok _ δ' => f δ'
  | _ => .bad
theorem PostG.bind {r : Res Unit} {f : Env → Res Unit} {Q : Env → Prop} (h : PostG (rBind r f) Q) : PostG r fun δ' => PostG (f δ') Q := by
  cases r with
  | ok a δ => exact h
  | exc x δ => exact h
  | bad => exact h
theorem PostG.imp {r : Res Unit} {Q Q' : Env → Prop} (h : PostG r Q) (k : ∀ δ, Q δ → Q' δ) : PostG r Q' := by
  cases r with
  | ok a δ => exact k δ h
  | exc x δ => exact h
  | bad => exact h
/-- the same but for some slots -/
def Off (gv : List Nat) (σ σ' : L2.St) : Prop := σ'.length = σ.length ∧ ∀ j, j ∉ gv → σ'[j]? = σ[j]?
theorem Off.refl {gv : List Nat} {σ : L2.St} : Off gv σ σ := ⟨rfl, fun _ _ => rfl⟩
theorem Off.trans {gv gw : List Nat} {σ σ1 σ2 : L2.St} (a : Off gv σ σ1) (b : Off gw σ1 σ2) : Off (gv ++ gw) σ σ2 := ⟨b.1.trans a.1, fun j h => by
  rw [List.mem_append, not_or] at h
  rw [b.2 j h.2, a.2 j h.1]⟩
def gOf (K : Frag) (E : XQ) (ps gv : List Nat) (mg : D → M Unit) : TG := fun v σ H Q => ∃ (W : Wd) (Hs : Hp) (δ : Env) (d : D), W.pn.map (·.1) = ps ∧ RE K W Hs H σ δ ∧ Rp K Hs v d ∧
  PostG (mg d δ) fun δ' => ∀ σ' Hs' H', Ex Hs Hs' → RE K W Hs' H' σ' δ' → Off gv σ σ' → Q σ' H'
def gOfs (K : Frag) (E : XQ) (ps gv : List Nat) (mg : List D → M Unit) : TGs := fun vs σ H Q => ∃ (W : Wd) (Hs : Hp) (δ : Env) (ds : List D), W.pn.map (·.1) = ps ∧ RE K W Hs H σ δ ∧ Rps K Hs vs ds ∧
  PostG (mg ds δ) fun δ' => ∀ σ' Hs' H', Ex Hs Hs' → RE K W Hs' H' σ' δ' → Off gv σ σ' → Q σ' H'
theorem pg_imp {tg : Expr} {t t' : TG} (h : PG X tg t) (k : ∀ v σ H Q, t' v σ H Q → t v σ H Q) : PG X tg t' := ⟨fun pins s σ H v u Q I r q => h.run pins s σ H v u Q I r (k v σ H Q q)⟩
theorem pgs_imp {tg : List Expr} {t t' : TGs} (h : PGs X tg t) (k : ∀ v σ H Q, t' v σ H Q → t v σ H Q) : PGs X tg t' := ⟨fun pins s σ H v u Q I r q => h.run pins s σ H v u Q I r (k v σ H Q q)⟩
def mgName (i : Nat) : D → M Unit := fun d δ => .ok () (δ.set i (.sh d))
theorem jg_name {i : Nat} {x : Str} (hps : i ∉ ps) (hN : X.N.Nodup) (hi : X.N[i]? = some x) (hx : Loc X.env.scope x) (hf : X.fn x = true ∨ X.env.scope.names.lookup x = some .local := by first | exact .inl rfl | exact .inr rfl | assumption) : PG X (.Name x pos) (gOf X.K E ps [i] (mgName i)) :=
  pg_imp (pg_name hN hi hx hf) fun v σ H Q ⟨W, Hs, δ, d, hp, re, r, po⟩ => po _ Hs H (Ex.refl _) (re.setSh r (by rw [hp]; exact hps)) ⟨by simp, fun j hj => by rw [List.getElem?_set_ne (fun z => hj (by simp [z]))]⟩
def mgNil : List D → M Unit
  | [] => mPure ()
  | _ :: _ => fun _ => .bad
def mgCons (g : D → M Unit) (gs : List D → M Unit) : List D → M Unit
  | d :: ds => fun δ => rBind (g d δ) (gs ds)
  | [] => fun _ => .bad
theorem jgs_nil : PGs X [] (gOfs X.K E ps [] mgNil) := pgs_imp pgs_nil fun vs σ H Q ⟨W, Hs, δ, ds, hp, re, r, po⟩ => by
  cases r with
  | nil => exact ⟨rfl, po σ Hs H (Ex.refl _) re Off.refl⟩
  | cons _ _ => exact po.elim
theorem jgs_cons {t : Expr} {ts : List Expr} {gv gw : List Nat} {g : D → M Unit} {gs : List D → M Unit} (h1 : PG X t (gOf X.K E ps gv g)) (h2 : PGs X ts (gOfs X.K E ps gw gs)) (hs : (assignEach (t :: ts) X.env).map (·.2) = assign t X.env :: (assignEach ts X.env).map (·.2) := by rfl) : PGs X (t :: ts) (gOfs X.K E ps (gv ++ gw) (mgCons g gs)) :=
  pgs_imp (pgs_cons h1 h2 hs) fun vs σ H Q ⟨W, Hs, δ, ds, hp, re, r, po⟩ => by
    cases r with
    | nil => exact po.elim
    | cons r1 rs =>
      refine ⟨_, _, rfl, W, Hs, δ, _, hp, re, r1, (PostG.bind po).imp fun δ1 po1 => ?_⟩
      exact fun σ' Hs' H' e re' of => ⟨W, Hs', δ1, _, hp, re', rs.ex e, po1.imp fun δ2 k σ2 Hs2 H2 e2 r2 of2 => k σ2 Hs2 H2 (e.trans e2) r2 (of.trans of2)⟩
/-- how many names, at any rate -/
def mgLen (n : Nat) (gs : List D → M Unit) : List D → M Unit := fun ds δ => if ds.length = n then gs ds δ else .bad
def mgTup (n : Nat) (gs : List D → M Unit) : D → M Unit
  | .tuple ds => mgLen n gs ds
  | _ => fun _ => .bad
def mgLst (n : Nat) (gs : List D → M Unit) : D → M Unit
  | .list ds => mgLen n gs ds
  | _ => fun _ => .bad
theorem mgLen_post {n : Nat} {gs : List D → M Unit} {ds : List D} {δ : Env} {Q : Env → Prop} (h : PostG (mgLen n gs ds δ) Q) : ds.length = n ∧ PostG (gs ds δ) Q := by
  unfold mgLen at h
  by_cases hl : ds.length = n
  · rw [if_pos hl] at h; exact ⟨hl, h⟩
  · rw [if_neg hl] at h; exact h.elim
theorem jg_tup {ts : List Expr} {k n : Nat} {gv : List Nat} {gs : List D → M Unit} (hc : X.calm = true) (h : PGs X ts (gOfs X.K E ps gv gs)) (hn : (assignEach ts X.env).length = n := by rfl) (hst : (assignEach ts X.env).findIdx? (·.1) = none := by rfl) : PG X (.Tuple ts k pos) (gOf X.K E ps gv (mgTup n gs)) :=
  pg_imp (pg_tup (n := n) hc h hn hst) fun v σ H Q ⟨W, Hs, δ, d, hp, re, r, po⟩ => by
    cases r with
    | tup h1 t =>
      obtain ⟨hl, po1⟩ := mgLen_post po
      exact ⟨_, _, rfl, sqT_ex re.ex h1, by rw [t.length]; exact hl, W, Hs, δ, _, hp, re, t, po1⟩
    | _ => exact po.elim
theorem jg_lst {ts : List Expr} {k n : Nat} {gv : List Nat} {gs : List D → M Unit} (hc : X.calm = true) (h : PGs X ts (gOfs X.K E ps gv gs)) (hn : (assignEach ts X.env).length = n := by rfl) (hst : (assignEach ts X.env).findIdx? (·.1) = none := by rfl) : PG X (.Tuple ts k pos) (gOf X.K E ps gv (mgLst n gs)) :=
  pg_imp (pg_unl (n := n) hc h hn hst) fun v σ H Q ⟨W, Hs, δ, d, hp, re, r, po⟩ => by
    cases r with
    | lst h1 t =>
      obtain ⟨hl, po1⟩ := mgLen_post po
      exact ⟨_, _, rfl, sqL_ex re.ex h1, by rw [t.length]; exact hl, W, Hs, δ, _, hp, re, t, po1⟩
    | _ => exact po.elim
/-- targets = e -/
def mAsg (g : D → M Unit) (m : M D) : M Fl := mBind m fun d δ => match g d δ with
  | .ok _ δ' => .ok .nx δ'
  | _ => .bad
theorem js_asg {tg : Expr} {gv : List Nat} {g : D → M Unit} (h : PE X e (tOf X.K E ps m)) (hg : PG X tg (gOf X.K E ps gv g)) (hs : swapsWithSole [tg] e pos.line X.env = pure false := by rfl) (hw : swappedStores [tg] e X.env = pure none := by rfl)
    (h1 : (assignEach [tg] X.env).map (·.2) = [assign tg X.env] := by rfl) : PS X (.Assign [tg] e pos) (tOfS X.K E ps (mAsg g m)) :=
  pst_imp (ps_asg h hg hs hw h1) fun B σ H ⟨W, Hs, δ, hp, re, po⟩ => tOf.stepS hp re po fun v d Hs1 H1 δ1 e1 re1 r1 po1 => by
    refine ⟨W, Hs1, δ1, d, hp, re1, r1, ?_⟩
    cases q : g d δ1 with
    | ok u δ2 => rw [q] at po1; exact fun σ' Hs' H' e r _ => po1 σ' Hs' H' e r
    | exc x δ2 => rw [q] at po1; exact po1
    | bad => rw [q] at po1; exact po1
end
end Dn
namespace Dn
open PySem PySem.Spec PyProof.Rows L2
def ItOk (K : Frag) (Hs : Hp) (J : It) (ds : List D) : Prop := ∀ Hs1 H1, Ex Hs Hs1 → Ex Hs1 H1 → ∀ i : Nat,
  (∀ d, ds[i]? = some d → J.go i H1 ∧ ∀ x H2, J.yld i H1 x H2 → ∃ Hs2, Gr Hs1 H1 Hs2 H2 ∧ Rp K Hs2 x d) ∧ (ds[i]? = none → J.stop i H1)
def tOfI (K : Frag) (E : XQ) (ps : List Nat) (m : M (List D)) : TI := fun σ H R => Cf K E ps m σ H fun _ ds Hs' H' _ => ∀ J, ItOk K Hs' J ds → R J H'
theorem pi_imp {X : Cx} {tg e : Expr} {t t' : TI} (h : PI X tg e t) (k : ∀ σ H Q, t' σ H Q → t σ H Q) : PI X tg e t' := ⟨fun pins s σ H Q I q => h.run pins s σ H Q I (k σ H Q q)⟩
def sgnD (z : Str) : List D := z.cps.toList.map fun c => .str ⟨#[c]⟩
def dItems : D → Option (List D)
  | .list xs => some xs
  | .tuple xs => some xs
  | .str z => some (sgnD z)
  | _ => none
section
variable {X : Cx} {E : XQ} {ps : List Nat} {tg e : Expr} {pos : Pos} {m : M D}
/-- a list, a tuple, a text -/
def iAnyR (K : Frag) (tl : TE) : TI := fun σ H R => tl σ H fun x H1 => (∃ a, x = .ref a ∧ (∃ xs, SqL K H1 a xs) ∧ R (Itl K a) H1) ∨ (∃ a, x = .ref a ∧ (∃ xs, SqT K H1 a xs) ∧ R (Itt K a) H1) ∨ ∃ z, x = .str z ∧ R (Its z) H1
theorem pi_anyR {tl : TE} (hl : PE X e tl) : PI X tg e (iAnyR X.K tl) := by
  constructor
  intro pins s σ H R I h
  refine thn (hl.run pins s σ H _ I h) ?_
  rintro v s1 ⟨x, H1, I1, r1, q1⟩
  rcases q1 with ⟨a, hx, ⟨xs, hq⟩, q⟩ | ⟨a, hx, ⟨xs, hq⟩, q⟩ | ⟨z, hx, q⟩
  · subst hx
    obtain rfl : v = Value.ref a := r1
    obtain ⟨its, rv, p, hz⟩ := I1.list hq
    exact wpAny_pyIter_list p.isList (pi_one (tk := s1.toks) I1 _ (turn_list a _)
      ⟨_, Heap.get?_push_size _ rfl, rfl, rfl⟩ q)
  · subst hx
    obtain rfl : v = Value.ref a := r1
    obtain ⟨its, rv, p, hz⟩ := I1.tuple hq
    have pt : s1.heap.IsTuple a its.toArray := p
    exact wpAny_pyIter_tuple pt (pi_one (tk := s1.toks) I1 _ (turn_tuple a _)
      ⟨_, Heap.get?_push_size _ rfl, rfl, rfl⟩ q)
  · subst hx
    obtain ⟨t, rfl⟩ := r1
    by_cases ha : z.cps.all (· < 128) = true
    · exact wpAny_pyIter_ascii ha (pi_one (tk := s1.toks) I1 _ (turn_str _ z t _ (.inl rfl))
        ⟨_, Heap.get?_push_size _ rfl, rfl, rfl⟩ q)
    · have ha' : z.cps.all (· < 128) = false := by simpa using ha
      exact wpAny_pyIter_wide ha' (pi_one (tk := s1.toks) I1 _ (turn_str _ z t _ (.inr rfl))
        ⟨_, Heap.get?_push_size _ rfl, rfl, rfl⟩ q)
theorem none_le {α : Type} {l : List α} {i : Nat} (h : l[i]? = none) : l.length ≤ i := List.getElem?_eq_none_iff.mp h
theorem it_list {K : Frag} {Hs : Hp} {a : Addr} {vs : List V} {ds : List D} (h : SqL K Hs a vs) (t : Rps K Hs vs ds) : ItOk K Hs (Itl K a) ds := fun Hs1 H1 e1 e2 i => ⟨fun d hd => by
  obtain ⟨v, h1, h2⟩ := t.get hd
  have hq : SqL K H1 a vs := sqL_ex (e1.trans e2) h
  refine ⟨⟨vs, v, hq, h1⟩, fun x H2 ⟨hH, hx⟩ => ?_⟩
  subst hH
  have := hx vs hq
  rw [h1] at this
  cases this
  exact ⟨Hs1, .refl e2, h2.ex e1⟩, fun hn => ⟨vs, sqL_ex (e1.trans e2) h, by rw [t.length]; exact none_le hn⟩⟩
theorem it_tup {K : Frag} {Hs : Hp} {a : Addr} {vs : List V} {ds : List D} (h : StT K Hs a vs) (t : Rps K Hs vs ds) : ItOk K Hs (Itt K a) ds := fun Hs1 H1 e1 e2 i => ⟨fun d hd => by
  obtain ⟨v, h1, h2⟩ := t.get hd
  have hq : SqT K H1 a vs := sqT_ex (e1.trans e2) h
  refine ⟨⟨vs, v, hq, h1⟩, fun x H2 ⟨hH, hx⟩ => ?_⟩
  subst hH
  have := hx vs hq
  rw [h1] at this
  cases this
  exact ⟨Hs1, .refl e2, h2.ex e1⟩, fun hn => ⟨vs, sqT_ex (e1.trans e2) h, by rw [t.length]; exact none_le hn⟩⟩
theorem it_str {K : Frag} {Hs : Hp} {z : Str} : ItOk K Hs (Its z) (sgnD z) := fun Hs1 H1 e1 e2 i => ⟨fun d hd => by
  unfold sgnD at hd
  rw [List.getElem?_map, Option.map_eq_some_iff] at hd
  obtain ⟨c, hc, hd⟩ := hd
  subst hd
  rw [Array.getElem?_toList] at hc
  refine ⟨(Array.getElem?_eq_some_iff.mp hc).1, fun x H2 ⟨hH, c', hc', hx⟩ => ?_⟩
  subst hH; subst hx
  rw [hc] at hc'
  cases hc'
  exact ⟨Hs1, .refl e2, .str _⟩, fun hn => by
  have := none_le hn
  unfold sgnD at this
  rw [List.length_map, Array.length_toList] at this
  exact this⟩
def mIter (m : M D) : M (List D) := mBind m fun d => mOpt (dItems d)
theorem ji_any (h : PE X e (tOf X.K E ps m)) : PI X tg e (tOfI X.K E ps (mIter m)) :=
  pi_imp (pi_anyR h) fun σ H R ⟨W, Hs, δ, hp, re, po⟩ => tOf.step hp re po fun v d Hs1 H1 δ1 e1 re1 r1 po1 => by
    obtain ⟨ds, hd, po2⟩ := Post.opt po1
    cases r1 with
    | lst h t =>
      obtain rfl := Option.some.inj hd
      exact .inl ⟨_, rfl, ⟨_, sqL_ex re1.ex h⟩, Post.of po2 re1 _ (it_list h t)⟩
    | tup h t =>
      obtain rfl := Option.some.inj hd
      exact .inr (.inl ⟨_, rfl, ⟨_, sqT_ex re1.ex h⟩, Post.of po2 re1 _ (it_tup h t)⟩)
    | str z =>
      obtain rfl := Option.some.inj hd
      exact .inr (.inr ⟨z, rfl, Post.of po2 re1 _ it_str⟩)
    | _ => simp [dItems] at hd
def inLine (i : Int) : Bool := decide (-(2 ^ 62) ≤ i ∧ i < 2 ^ 62)
def rngD (i : Int) (n : Nat) : List D := (List.range n).map fun (k : Nat) => PyData.int (i + (k : Int))
def bRng1 : D → Option (List D)
  | .int j => if inLine j then some (rngD 0 j.toNat) else none
  | _ => none
def bRng2 : D → D → Option (List D)
  | .int i, .int j => if inLine i ∧ inLine j then some (rngD i (j - i).toNat) else none
  | _, _ => none
theorem it_rng {K : Frag} {Hs : Hp} {lo : Int} {n : Nat} : ItOk K Hs (Itr lo n) (rngD lo n) := fun Hs1 H1 e1 e2 i => ⟨fun d hd => by
  unfold rngD at hd
  rw [List.getElem?_map, Option.map_eq_some_iff] at hd
  obtain ⟨c, hc, hd⟩ := hd
  subst hd
  obtain ⟨hi, hc⟩ := List.getElem?_eq_some_iff.mp hc
  rw [List.getElem_range] at hc
  subst hc
  rw [List.length_range] at hi
  refine ⟨hi, fun x H2 ⟨hH, hx⟩ => ?_⟩
  subst hH; subst hx
  exact ⟨Hs1, .refl e2, .int _⟩, fun hn => by
  have := none_le hn
  unfold rngD at this
  rw [List.length_map, List.length_range] at this
  exact this⟩
def mRng1 (m : M D) : M (List D) := mBind m fun d => mOpt (bRng1 d)
def mRng2 (ma mb : M D) : M (List D) := mBind ma fun d => mBind mb fun e => mOpt (bRng2 d e)
theorem ji_range1 {a : Expr} {p : Pos} {ma : M D} (hg : Gl X "range") (hm : X.mg "range" = none) (ha : PE X a (tOf X.K E ps ma)) (hs : starEach [a] X.env = [(false, eval a X.env)] := by rfl) : PI X tg (.Call (.Name "range" p) [a] [] pos) (tOfI X.K E ps (mRng1 ma)) :=
  pi_imp (pi_range1 hg hm (pa_cons ha pa_nil hs) hs) fun σ H R ⟨W, Hs, δ, hp, re, po⟩ => tOf.step hp re po fun v d Hs1 H1 δ1 e1 re1 r1 po1 => by
    obtain ⟨ds, hd, po2⟩ := Post.opt po1
    cases r1 with
    | int j =>
      simp only [bRng1, Option.ite_none_right_eq_some, Option.some.injEq] at hd
      obtain ⟨hl, hd⟩ := hd
      subst hd
      have hl' := of_decide_eq_true hl
      exact ⟨j, rfl, hl'.1, hl'.2, Post.of po2 re1 _ it_rng⟩
    | _ => simp [bRng1] at hd
def forL (g : D → M Unit) (mb : M Fl) : List D → M Fl
  | [] => mNx
  | d :: ds => fun δ => match g d δ with
    | .ok _ δ1 => match mb δ1 with
      | .ok .nx δ2 => forL g mb ds δ2
      | .ok .ct δ2 => forL g mb ds δ2
      | .ok .bk δ2 => .ok .nx δ2
      | .ok (.rt s) δ2 => .ok (.rt s) δ2
      | .exc x δ2 => .exc x δ2
      | .bad => .bad
    | _ => .bad
def mFor (mi : M (List D)) (g : D → M Unit) (mb : M Fl) : M Fl := mBind mi (forL g mb)
theorem js_for {iter : Expr} {body : List Stmt} {mi : M (List D)} {gv : List Nat} {g : D → M Unit} {mb : M Fl} (hpa : PassesOwn (model X.prog X.w) X.A X.env X.xe) (hc : X.calm = true) (hi : PI X tg iter (tOfI X.K E ps mi)) (hg : PG X tg (gOf X.K E ps gv g)) (hb : PSs X body (tOfS X.K E ps mb))
    (hs : ∀ x, foldedSetIterable iter X.env x = pure x := by intro _; rfl) : PS X (.For tg iter body [] pos) (tOfS X.K E ps (mFor mi g mb)) :=
  pst_imp (ps_for hpa hc hi hg hb hs) fun B σ H ⟨W, Hs, δ, hp, re, po⟩ => Cf.stepS hp re po fun ds Hs1 H1 δ1 e1 re1 po1 J hJ => by
    refine ⟨fun i m σ' H' => m = ds.length - i ∧ i ≤ ds.length ∧ ∃ Hs2 δ2, Ex Hs1 Hs2 ∧ RE X.K W Hs2 H' σ' δ2 ∧ PostF X.K E W Hs2 (forL g mb (ds.drop i) δ2) B, ⟨ds.length, rfl, Nat.zero_le _, Hs1, δ1, Ex.refl _, re1, po1⟩, ?_⟩
    rintro i m σ' H' ⟨hm, hi, Hs2, δ2, e2, re2, po2⟩
    obtain ⟨j1, j2⟩ := hJ Hs2 H' e2 re2.ex i
    by_cases hlt : i < ds.length
    · have hd : ds[i]? = some ds[i] := List.getElem?_eq_getElem hlt
      obtain ⟨g1, g2⟩ := j1 _ hd
      refine .inr ⟨g1, fun σ3 H3 => ∃ Hs3 δ3, Ex Hs1 Hs3 ∧ RE X.K W Hs3 H3 σ3 δ3 ∧ PostF X.K E W Hs3 (forL g mb (ds.drop (i + 1)) δ3) B, fun σ3 H3 ⟨Hs3, δ3, e3, re3, po3⟩ => ⟨ds.length - (i + 1), by omega, rfl, hlt, Hs3, δ3, e3, re3, po3⟩, fun x H3 y => ?_⟩
      obtain ⟨Hs3, gr, rx⟩ := g2 x H3 y
      have re3 := re2.grow gr
      have po3 := PostS.ex po2 gr.s
      rw [List.drop_eq_getElem_cons hlt] at po3
      unfold forL at po3
      refine ⟨W, Hs3, δ2, ds[i], hp, re3, rx, ?_⟩
      cases q : g ds[i] δ2 with
      | ok u δ4 =>
        rw [q] at po3
        refine fun σ4 Hs4 H4 e4 re4 _ => ⟨W, Hs4, δ4, hp, re4, ?_⟩
        dsimp only at po3
        cases z : mb δ4 with
        | ok fl δ5 =>
          rw [z] at po3
          cases fl with
          | nx => exact fun σ5 Hs5 H5 e5 re5 => ⟨Hs5, δ5, ((e2.trans gr.s).trans e4).trans e5, re5, PostS.ex po3 (e4.trans e5)⟩
          | ct => exact fun σ5 Hs5 H5 e5 re5 => ⟨Hs5, δ5, ((e2.trans gr.s).trans e4).trans e5, re5, PostS.ex po3 (e4.trans e5)⟩
          | bk => exact fun σ5 Hs5 H5 e5 re5 => po3 σ5 Hs5 H5 (e4.trans e5) re5
          | rt s => cases s <;> exact fun σ5 Hs5 H5 e5 re5 => po3 σ5 Hs5 H5 (e4.trans e5) re5
        | exc x δ5 =>
          rw [z] at po3
          exact fun σ5 Hs5 H5 e5 re5 => po3 σ5 Hs5 H5 (e4.trans e5) re5
        | bad => rw [z] at po3; exact po3
      | exc x δ4 => rw [q] at po3; exact po3
      | bad => rw [q] at po3; exact po3
    · have e : i = ds.length := by omega
      subst e
      rw [List.drop_length] at po2
      exact .inl ⟨j2 (List.getElem?_eq_none_iff.mpr (Nat.le_refl _)), PostS.of po2 re2⟩
end
def wipeE (δ : Env) : List Nat → Env
  | [] => δ
  | v :: vs => (wipeE δ vs).set v .no
def backE (δ1 δ2 : Env) : List Nat → Env
  | [] => δ2
  | v :: vs => (backE δ1 δ2 vs).set v (δ1.getD v .no)
theorem wipeE_length (δ : Env) : ∀ vs, (wipeE δ vs).length = δ.length
  | [] => rfl
  | v :: vs => by unfold wipeE; rw [List.length_set, wipeE_length δ vs]
theorem backE_length (δ1 δ2 : Env) : ∀ vs, (backE δ1 δ2 vs).length = δ2.length
  | [] => rfl
  | v :: vs => by unfold backE; rw [List.length_set, backE_length δ1 δ2 vs]
theorem wipeE_in {δ : Env} {i : Nat} {s : Sl} : ∀ {vs : List Nat}, i ∈ vs → (wipeE δ vs)[i]? = some s → s = .no
  | v :: vs, h, q => by
    unfold wipeE at q
    rcases setGet q with ⟨_, z⟩ | ⟨hj, z⟩
    · exact z
    · rcases List.mem_cons.mp h with e | h
      · exact absurd e hj
      · exact wipeE_in h z
theorem wipeE_out {δ : Env} {i : Nat} : ∀ {vs : List Nat}, i ∉ vs → (wipeE δ vs)[i]? = δ[i]?
  | [], _ => rfl
  | v :: vs, h => by
    unfold wipeE
    have hne : v ≠ i := fun z => h (by simp [z])
    rw [List.getElem?_set_ne hne]
    exact wipeE_out fun z => h (List.mem_cons_of_mem _ z)
theorem backE_in {δ1 δ2 : Env} {i : Nat} {s : Sl} : ∀ {vs : List Nat}, i ∈ vs → (backE δ1 δ2 vs)[i]? = some s → s = δ1.getD i .no
  | v :: vs, h, q => by
    unfold backE at q
    rcases setGet q with ⟨hv, z⟩ | ⟨hj, z⟩
    · rw [hv]; exact z
    · rcases List.mem_cons.mp h with e | h
      · exact absurd e hj
      · exact backE_in h z
theorem backE_out {δ1 δ2 : Env} {i : Nat} : ∀ {vs : List Nat}, i ∉ vs → (backE δ1 δ2 vs)[i]? = δ2[i]?
  | [], _ => rfl
  | v :: vs, h => by
    unfold backE
    have hne : v ≠ i := fun z => h (by simp [z])
    rw [List.getElem?_set_ne hne]
    exact backE_out fun z => h (List.mem_cons_of_mem _ z)
theorem wipe_off {σ σ2 : L2.St} {vs gv : List Nat} (h : Off gv (wipe σ vs) σ2) (hs : ∀ i ∈ gv, i ∈ vs) : wipe σ2 vs = wipe σ vs := by
  apply List.ext_getElem?
  intro j
  by_cases hj : j ∈ vs
  · have f : ∀ (τ : L2.St) (us : List Nat), j ∈ us → (wipe τ us)[j]? = if j < τ.length then some none else none := fun τ us hju => by
      induction us with
      | nil => cases hju
      | cons u us ih =>
        unfold wipe
        by_cases e : u = j
        · subst e
          rw [List.getElem?_set]
          simp [wipe_length]
        · rw [List.getElem?_set_ne e]
          exact ih ((List.mem_cons.mp hju).resolve_left (Ne.symm e))
    rw [f _ _ hj, f _ _ hj, h.1, wipe_length]
  · rw [wipe_out hj, h.2 j (fun z => hj (hs j z)), wipe_out hj]
section
variable {K : Frag} {W : Wd} {Hs H Hs' H' : Hp} {σ : L2.St} {δ δ' : Env} {vs : List Nat}
theorem RE.wipe (re : RE K W Hs H σ δ) (hv : ∀ i ∈ vs, i ∉ W.pn.map (·.1)) : RE K W Hs H (wipe σ vs) (wipeE δ vs) := by
  have r1 : RE K W Hs H σ (wipeE δ vs) := re.less (wipeE_length δ vs) (fun i s q => by
    by_cases hi : i ∈ vs
    · exact .inl (wipeE_in hi q)
    · rw [wipeE_out hi] at q; exact .inr q) fun p hp => wipeE_out fun z => hv p.1 z (List.mem_map_of_mem hp)
  refine r1.sig (wipe_length σ vs) fun i s q hn => ?_
  by_cases hi : i ∈ vs
  · exact absurd (wipeE_in hi q) hn
  · exact wipe_out hi
/-- behind a block: its own names are as they were ahead of it -/
theorem RE.back (re : RE K W Hs H σ δ) (re2 : RE K W Hs' H' (L2.wipe σ vs) δ') (e : Ex Hs Hs') (hno : ∀ i ∈ vs, (δ.getD i .no).own = false) (hv : ∀ i ∈ vs, i ∉ W.pn.map (·.1)) : RE K W Hs' H' σ (backE δ δ' vs) where
  ex := re2.ex
  fg := re2.fg
  len := by rw [backE_length, ← re2.len, wipe_length]
  sh := fun i d q => by
    by_cases hi : i ∈ vs
    · have z := backE_in hi q
      have hg : δ[i]? = some (Sl.sh d) := by
        rw [List.getD_eq_getElem?_getD] at z
        cases w : δ[i]? with
        | none => rw [w] at z; cases z
        | some s => rw [w] at z; exact congrArg some z.symm
      obtain ⟨v, h1, h2⟩ := re.sh i d hg
      exact ⟨v, h1, h2.ex e⟩
    · rw [backE_out hi] at q
      obtain ⟨v, h1, h2⟩ := re2.sh i d q
      rw [wipe_out hi] at h1
      exact ⟨v, h1, h2⟩
  ow := fun i s q w => by
    by_cases hi : i ∈ vs
    · have z := backE_in hi q
      rw [z, hno i hi] at w
      cases w
    · rw [backE_out hi] at q
      obtain ⟨a, o, h1, h2⟩ := re2.ow i s q w
      rw [wipe_out hi] at h1
      exact ⟨a, o, h1, h2⟩
  ap := fun i j s t a h1 h2 h3 h4 h5 h6 => by
    by_cases hi : i ∈ vs
    · have z := backE_in hi h1
      rw [z, hno i hi] at h2
      cases h2
    · by_cases hj : j ∈ vs
      · have z := backE_in hj h3
        rw [z, hno j hj] at h4
        cases h4
      · rw [backE_out hi] at h1
        rw [backE_out hj] at h3
        rw [← wipe_out hi] at h5
        rw [← wipe_out hj] at h6
        exact re2.ap i j s t a h1 h2 h3 h4 h5 h6
  pin := fun p hp => by
    have hi : p.1 ∉ vs := fun z => hv p.1 z (List.mem_map_of_mem hp)
    obtain ⟨h1, s, h2, h3⟩ := re2.pin p hp
    rw [wipe_out hi] at h1
    exact ⟨h1, s, by rw [backE_out hi]; exact h2, h3⟩
/-- a list in the making is lent out to nobody -/
theorem RE.hide {D : Addr} {xs : List PyData} {acc : List V} (re : RE K W Hs H σ δ) (f : FrO K W Hs H σ δ D xs) (ha : H D = some (.lst acc)) : RE K { W with G := upd W.G D (.lst acc) } Hs H σ δ where
  ex := re.ex
  fg := fun a o q => by
    by_cases e : a = D
    · subst e
      have q : upd W.G a (.lst acc) a = some o := q
      rw [upd_same] at q
      cases q
      exact ⟨ha, f.hs⟩
    · have q : upd W.G D (.lst acc) a = some o := q
      rw [upd_ne e] at q
      exact re.fg a o q
  len := re.len
  sh := re.sh
  ow := fun i s q w => by
    obtain ⟨a, o, h1, h2, h3, h4, h5⟩ := re.ow i s q w
    refine ⟨a, o, h1, h2, h3, h4, ?_⟩
    have e : a ≠ D := fun z => f.ne i s q w (z ▸ h1)
    show upd W.G D (.lst acc) a = none
    rw [upd_ne e]
    exact h5
  ap := re.ap
  pin := re.pin
theorem RE.shown {D : Addr} {o u : HO} (re : RE K { W with G := upd W.G D o } Hs H σ δ) (hg : W.G D = none) : RE K W Hs (upd H D u) σ δ where
  ex := fun a o' q => by
    have h := (re.fg D o (by show upd W.G D o D = _; rw [upd_same])).2
    have e : a ≠ D := fun z => by rw [z, h] at q; cases q
    rw [upd_ne e]
    exact re.ex a o' q
  fg := fun a o' q => by
    have e : a ≠ D := fun z => by rw [z, hg] at q; cases q
    rw [upd_ne e]
    exact re.fg a o' (by show upd W.G D o a = _; rw [upd_ne e]; exact q)
  len := re.len
  sh := re.sh
  ow := fun i s q w => by
    obtain ⟨a, o', h1, h2, h3, h4, h5⟩ := re.ow i s q w
    have h5 : upd W.G D o a = none := h5
    have e : a ≠ D := fun z => by rw [z, upd_same] at h5; cases h5
    rw [upd_ne e] at h5
    exact ⟨a, o', h1, by rw [upd_ne e]; exact h2, h3, h4, h5⟩
  ap := re.ap
  pin := re.pin
theorem RE.hidden {D : Addr} {o : HO} (re : RE K { W with G := upd W.G D o } Hs H σ δ) (i : Nat) (s : Sl) (q : δ[i]? = some s) (w : s.own = true) : σ[i]? ≠ some (some (V.ref D)) := fun z => by
  obtain ⟨a, o', h1, h2, h3, h4, h5⟩ := re.ow i s q w
  rw [h1] at z
  cases z
  have h5 : upd W.G D o D = none := h5
  rw [upd_same] at h5
  cases h5
end
def mWipe (vs : List Nat) : M Unit := fun δ => .ok () (wipeE δ vs)
def compL (vs : List Nat) (g : D → M Unit) (mt : M Bool) (me : M D) : List D → M (List D)
  | [] => mPure []
  | d :: ds => fun δ => match g d δ with
    | .ok _ δ1 => mBind mt (fun b => if b then mBind me (fun y => mBind (mWipe vs) fun _ => mBind (compL vs g mt me ds) fun ys => mPure (y :: ys)) else mBind (mWipe vs) fun _ => compL vs g mt me ds) δ1
    | _ => .bad
def compE (vs : List Nat) (g : D → M Unit) (mt : M Bool) (me : M D) (ds : List D) : M (List D) := fun δ =>
  if (vs.all fun i => !(δ.getD i .no).own) = true ∧ ds.length ≤ sizeLine then
    match compL vs g mt me ds (wipeE δ vs) with
    | .ok ys δ2 => .ok ys (backE δ δ2 vs)
    | _ => .bad
  else .bad
def mComp (mi : M (List D)) (vs : List Nat) (g : D → M Unit) (mt : M Bool) (me : M D) : M (List D) := mBind mi (compE vs g mt me)
def mYes : M Bool := mPure true
end Dn
namespace Ds
open PySem PySem.Spec PyProof.Rows L2 Dn
inductive All2 {α β : Type} (R : α → β → Prop) : List α → List β → Prop where
  | nil : All2 R [] []
  | cons {a : α} {b : β} {as : List α} {bs : List β} : R a b → All2 R as bs → All2 R (a :: as) (b :: bs)
namespace All2
variable {α β : Type} {R S : α → β → Prop}
theorem imp (k : ∀ a b, R a b → S a b) : ∀ {as : List α} {bs : List β}, All2 R as bs → All2 S as bs
  | _, _, .nil => .nil
  | _, _, .cons h t => .cons (k _ _ h) (imp k t)
theorem length : ∀ {as : List α} {bs : List β}, All2 R as bs → as.length = bs.length
  | _, _, .nil => rfl
  | _, _, .cons _ t => by rw [List.length_cons, List.length_cons, length t]
theorem get : ∀ {as : List α} {bs : List β} {i : Nat} {b : β}, All2 R as bs → bs[i]? = some b → ∃ a, as[i]? = some a ∧ R a b
  | _, _, i, d, .nil, e => by simp at e
  | _, _, 0, d, .cons h _, e => by simp at e; subst e; exact ⟨_, rfl, h⟩
  | _, _, i + 1, d, .cons _ t, e => by
    obtain ⟨v, h1, h2⟩ := get (i := i) t (by simpa using e)
    exact ⟨v, by simpa using h1, h2⟩
theorem append : ∀ {as as' : List α} {bs bs' : List β}, All2 R as bs → All2 R as' bs' → All2 R (as ++ as') (bs ++ bs')
  | _, _, _, _, .nil, s => s
  | _, _, _, _, .cons h t, s => .cons h (append t s)
theorem snoc {as : List α} {bs : List β} {a : α} {b : β} (h : All2 R as bs) (r : R a b) : All2 R (as ++ [a]) (bs ++ [b]) := h.append (.cons r .nil)
theorem set {a : α} {b : β} (r : R a b) : ∀ {as : List α} {bs : List β} (i : Nat), All2 R as bs → All2 R (as.set i a) (bs.set i b)
  | _, _, _, .nil => .nil
  | _, _, 0, .cons _ t => .cons r t
  | _, _, i + 1, .cons h t => .cons h (set r i t)
theorem erase : ∀ {as : List α} {bs : List β} (i : Nat), All2 R as bs → All2 R (as.eraseIdx i) (bs.eraseIdx i)
  | _, _, _, .nil => .nil
  | _, _, 0, .cons _ t => t
  | _, _, i + 1, .cons h t => .cons h (erase i t)
theorem take : ∀ {as : List α} {bs : List β} (n : Nat), All2 R as bs → All2 R (as.take n) (bs.take n)
  | _, _, 0, _ => .nil
  | _, _, _ + 1, .nil => .nil
  | _, _, n + 1, .cons h t => .cons h (take n t)
theorem drop : ∀ {as : List α} {bs : List β} (n : Nat), All2 R as bs → All2 R (as.drop n) (bs.drop n)
  | _, _, 0, h => h
  | _, _, _ + 1, .nil => .nil
  | _, _, n + 1, .cons _ t => drop n t
theorem imp_mem : ∀ {as : List α} {bs : List β}, All2 R as bs → (∀ a b, b ∈ bs → R a b → S a b) → All2 S as bs
  | _, _, .nil, _ => .nil
  | _, _, .cons h t, k => .cons (k _ _ List.mem_cons_self h) (imp_mem t fun a b m => k a b (List.mem_cons_of_mem _ m))
end All2
theorem nodup_at {α : Type} {a : α} : ∀ {l : List α} {i j : Nat}, l.Nodup → l[i]? = some a → l[j]? = some a → i = j
  | [], i, j, _, h, _ => by simp at h
  | b :: l, 0, 0, _, _, _ => rfl
  | b :: l, 0, j + 1, n, h, h' => by
    have e : b = a := by simpa using h
    subst e
    exact absurd (List.mem_of_getElem? (l := l) (i := j) (by simpa using h')) (List.nodup_cons.mp n).1
  | b :: l, i + 1, 0, n, h, h' => by
    have e : b = a := by simpa using h'
    subst e
    exact absurd (List.mem_of_getElem? (l := l) (i := i) (by simpa using h)) (List.nodup_cons.mp n).1
  | b :: l, i + 1, j + 1, n, h, h' => by
    rw [nodup_at (List.nodup_cons.mp n).2 (i := i) (j := j) (by simpa using h) (by simpa using h')]
/-- what a name, an item, a field holds: nothing said, data, a thing of the store -/
inductive Cl where
  | no
  | sh (d : D)
  | lo (l : Nat)
  | tp (cs : List Cl)
/-- things that change -/
inductive Ob where
  | gone
  | lst (xs : List Cl)
  | dk (kvs : List (Key × Cl))
  | dt (kvs : List (List Key × Cl))
  | ft (kvs : List (List Key × Cl))
  | fk (kvs : List (Key × Cl))
  | ins (c : Str) (fs : List (Str × Cl))
def Ob.live : Ob → Bool
  | .gone => false
  | .ft _ => false
  | .fk _ => false
  | _ => true
/-- locked -/
def Ob.fzd : Ob → Bool
  | .ft _ => true
  | .fk _ => true
  | _ => false
structure Sx where
  e : List Cl
  s : List Ob
inductive Res (α : Type) where
  | ok (a : α) (x : Sx)
  | exc (y : Exn) (x : Sx)
  | bad
abbrev M (α : Type) := Sx → Res α
def mPure {α : Type} (a : α) : M α := fun x => .ok a x
def mBind {α β : Type} (m : M α) (f : α → M β) : M β := fun x => match m x with
  | .ok a x' => f a x'
  | .exc y x' => .exc y x'
  | .bad => .bad
def mOpt {α : Type} (o : Option α) : M α := fun x => match o with
  | some a => .ok a x
  | none => .bad
/-- where the store's things lie, and what never changes -/
structure Gh where
  r : List Addr
  h : Hp
structure Le (g g' : Gh) : Prop where
  r : ∀ (l : Nat) (a : Addr), g.r[l]? = some a → g'.r[l]? = some a
  h : Ex g.h g'.h
theorem Le.refl (g : Gh) : Le g g := ⟨fun _ _ h => h, Ex.refl _⟩
theorem Le.trans {g g1 g2 : Gh} (a : Le g g1) (b : Le g1 g2) : Le g g2 := ⟨fun l x h => b.r l x (a.r l x h), a.h.trans b.h⟩
mutual
inductive CR (K : Frag) (g : Gh) : V → Cl → Prop where
  | sh {v : V} {d : D} : Rp K g.h v d → CR K g v (.sh d)
  | lo {l : Nat} {a : Addr} : g.r[l]? = some a → CR K g (.ref a) (.lo l)
  | tp {a : Addr} {vs : List V} {cs : List Cl} : StT K g.h a vs → CRt K g vs cs → CR K g (.ref a) (.tp cs)
inductive CRt (K : Frag) (g : Gh) : List V → List Cl → Prop where
  | nil : CRt K g [] []
  | cons {v : V} {c : Cl} {vs : List V} {cs : List Cl} : CR K g v c → CRt K g vs cs → CRt K g (v :: vs) (c :: cs)
end
theorem CRt.a {K : Frag} {g : Gh} : ∀ {vs : List V} {cs : List Cl}, CRt K g vs cs → All2 (CR K g) vs cs
  | _, _, .nil => .nil
  | _, _, .cons h t => .cons h (CRt.a t)
theorem CRt.of {K : Frag} {g : Gh} : ∀ {vs : List V} {cs : List Cl}, All2 (CR K g) vs cs → CRt K g vs cs
  | _, _, .nil => .nil
  | _, _, .cons h t => .cons h (CRt.of t)
def clsA (K : Frag) (c : Str) : Option Addr := match PySem.W.nsIn K mainGlobals c with
  | some (some (.ref a)) => some a
  | _ => none
inductive ObR (K : Frag) (g : Gh) : Ob → HO → Prop where
  | lst {xs : List Cl} {vs : List V} : All2 (CR K g) vs xs → ObR K g (.lst xs) (.lst vs)
  | dk {xs : List (Key × Cl)} {vs : List (Key × V)} : All2 (fun p q => p.1 = q.1 ∧ CR K g p.2 q.2) vs xs → ObR K g (.dk xs) (.dK vs)
  | dt {xs : List (List Key × Cl)} {vs : List (List Key × V)} : All2 (fun p q => p.1 = q.1 ∧ CR K g p.2 q.2) vs xs → ObR K g (.dt xs) (.dT vs)
  | ins {c : Str} {C dx : Addr} {xs : List (Str × Cl)} {vs : List (Str × V)} : clsA K c = some C → All2 (fun p q => p.1 = q.1 ∧ CR K g p.2 q.2) vs xs → ObR K g (.ins c xs) (.ins C dx vs)
/-- what is locked -/
inductive FzR (K : Frag) (g : Gh) : Ob → HO → Prop where
  | ft {xs : List (List Key × Cl)} {vs : List (List Key × V)} : All2 (fun p q => p.1 = q.1 ∧ CR K g p.2 q.2) vs xs → FzR K g (.ft xs) (.dT vs)
  | fk {xs : List (Key × Cl)} {vs : List (Key × V)} : All2 (fun p q => p.1 = q.1 ∧ CR K g p.2 q.2) vs xs → FzR K g (.fk xs) (.dK vs)
theorem fz_not {K : Frag} {g : Gh} {o : Ob} {u : HO} (h : ObR K g o u) (k : o.fzd = true) : False := by cases h <;> cases k
section
variable {K : Frag} {g g' : Gh}
mutual
theorem CR.le (e : Le g g') : ∀ {v : V} {c : Cl}, CR K g v c → CR K g' v c
  | _, _, .sh h => .sh (h.ex e.h)
  | _, _, .lo h => .lo (e.r _ _ h)
  | _, _, .tp h t => .tp (h.ex e.h) (CRt.le e t)
theorem CRt.le (e : Le g g') : ∀ {vs : List V} {cs : List Cl}, CRt K g vs cs → CRt K g' vs cs
  | _, _, .nil => .nil
  | _, _, .cons h t => .cons (CR.le e h) (CRt.le e t)
end
theorem CRs.le (e : Le g g') {vs : List V} {cs : List Cl} (h : All2 (CR K g) vs cs) : All2 (CR K g') vs cs := h.imp fun _ _ => CR.le e
theorem FzR.le (e : Le g g') : ∀ {o : Ob} {u : HO}, FzR K g o u → FzR K g' o u
  | _, _, .ft h => .ft (h.imp fun _ _ h => ⟨h.1, h.2.le e⟩)
  | _, _, .fk h => .fk (h.imp fun _ _ h => ⟨h.1, h.2.le e⟩)
theorem ObR.le (e : Le g g') : ∀ {o : Ob} {u : HO}, ObR K g o u → ObR K g' o u
  | _, _, .lst h => .lst (h.imp fun _ _ => CR.le e)
  | _, _, .dk h => .dk (h.imp fun _ _ h => ⟨h.1, h.2.le e⟩)
  | _, _, .dt h => .dt (h.imp fun _ _ h => ⟨h.1, h.2.le e⟩)
  | _, _, .ins c h => .ins c (h.imp fun _ _ h => ⟨h.1, h.2.le e⟩)
end
/-- slots, store and heap agree; G: what others hold -/
structure RE (K : Frag) (G : Hp) (g : Gh) (H : Hp) (σ : L2.St) (δ : Sx) : Prop where
  ex : Ex g.h H
  fg : ∀ a o, G a = some o → H a = some o ∧ g.h a = none ∧ a ∉ g.r
  len : σ.length = δ.e.length
  rl : g.r.length = δ.s.length
  sl : ∀ (i : Nat) (c : Cl), δ.e[i]? = some c → c ≠ .no → ∃ v : V, σ[i]? = some (some v) ∧ CR K g v c
  ob : ∀ (l : Nat) (o : Ob), δ.s[l]? = some o → o.live = true → ∃ (a : Addr) (u : HO), g.r[l]? = some a ∧ H a = some u ∧ ObR K g o u ∧ g.h a = none
  nd : g.r.Nodup
  al : ∀ a ∈ g.r, H a ≠ none
  nt : ∀ a xs, H a = some (.tup xs) → a ∉ g.r ∧ G a = none
  gx : ∀ a fs, G a ≠ some (.xd fs)
  fz : ∀ (l : Nat) (o : Ob), δ.s[l]? = some o → o.fzd = true → ∃ (a : Addr) (od : Obj) (u : HO), g.r[l]? = some a ∧ g.h a = some (.frz od u) ∧ FzR K g o u
/-- new stable things: fresh ones, or tuples that stand already -/
structure Gs (Hs H Hs' H' : Hp) : Prop where
  s : Ex Hs Hs'
  h : Ex H H'
  i : Ex Hs' H'
  f : ∀ a, H a ≠ none → Hs' a = Hs a ∨ ∃ ys, H a = some (.tup ys)
theorem Gs.of {Hs H Hs' H' : Hp} (g : Gr Hs H Hs' H') : Gs Hs H Hs' H' := ⟨g.s, g.h, g.i, fun a h => .inl (g.f a h)⟩
theorem Gs.trans {Hs H Hs' H' Hs2 H2 : Hp} (a : Gs Hs H Hs' H') (b : Gs Hs' H' Hs2 H2) : Gs Hs H Hs2 H2 := ⟨a.s.trans b.s, a.h.trans b.h, b.i, fun c hc => by
  cases q : H c with
  | none => exact absurd q hc
  | some o =>
    have q' := a.h c o q
    rcases a.f c hc with z | ⟨ys, z⟩
    · rcases b.f c (by rw [q']; simp) with w | ⟨ys, w⟩
      · exact .inl (w.trans z)
      · rw [q'] at w
        exact .inr ⟨ys, w⟩
    · rw [q] at z
      exact .inr ⟨ys, z⟩⟩
structure Grw (g : Gh) (H : Hp) (g' : Gh) (H' : Hp) : Prop where
  q : g'.r = g.r
  g : Gs g.h H g'.h H'
theorem Grw.le {g g' : Gh} {H H' : Hp} (a : Grw g H g' H') : Le g g' := ⟨fun l x h => by rw [a.q]; exact h, a.g.s⟩
theorem Grw.refl {g : Gh} {H : Hp} (e : Ex g.h H) : Grw g H g H := ⟨rfl, .of (.refl e)⟩
theorem Grw.new {g : Gh} {H : Hp} {p : Addr} {o : HO} (e : Ex g.h H) (h : H p = none) : Grw g H ⟨g.r, upd g.h p o⟩ (upd H p o) := ⟨rfl, .of (Gr.new e h)⟩
theorem Grw.of {g : Gh} {H Hs' H' : Hp} (a : Gr g.h H Hs' H') : Grw g H ⟨g.r, Hs'⟩ H' := ⟨rfl, .of a⟩
theorem Grw.ofS {g : Gh} {H Hs' H' : Hp} (a : Gs g.h H Hs' H') : Grw g H ⟨g.r, Hs'⟩ H' := ⟨rfl, a⟩
theorem Grw.trans {g g1 g2 : Gh} {H H1 H2 : Hp} (a : Grw g H g1 H1) (b : Grw g1 H1 g2 H2) : Grw g H g2 H2 := ⟨b.q.trans a.q, a.g.trans b.g⟩
section
variable {K : Frag} {G : Hp} {g g' : Gh} {H H' : Hp} {σ σ' : L2.St} {δ δ' : Sx} {e e' : List Cl} {s s' : List Ob}
theorem RE.grow (r : RE K G g H σ δ) (w : Grw g H g' H') : RE K G g' H' σ δ where
  ex := w.g.i
  fg := fun a o q => by
    obtain ⟨h1, h2, h3⟩ := r.fg a o q
    refine ⟨w.g.h a o h1, ?_, by rw [w.q]; exact h3⟩
    rcases w.g.f a (by rw [h1]; simp) with z | ⟨ys, z⟩
    · rw [z, h2]
    · rw [(r.nt a ys z).2] at q; cases q
  len := r.len
  rl := by rw [w.q]; exact r.rl
  sl := fun i c q hc => by
    obtain ⟨v, h1, h2⟩ := r.sl i c q hc
    exact ⟨v, h1, h2.le w.le⟩
  ob := fun l o q hl => by
    obtain ⟨a, u, h1, h2, h3, h4⟩ := r.ob l o q hl
    refine ⟨a, u, by rw [w.q]; exact h1, w.g.h a u h2, h3.le w.le, ?_⟩
    rcases w.g.f a (by rw [h2]; simp) with z | ⟨ys, z⟩
    · rw [z, h4]
    · exact absurd (List.mem_of_getElem? h1) (r.nt a ys z).1
  nd := by rw [w.q]; exact r.nd
  al := fun a ha => by
    rw [w.q] at ha
    have := r.al a ha
    cases q : H a with
    | none => exact absurd q this
    | some o => rw [w.g.h a o q]; simp
  nt := fun a xs q => by
    refine ⟨fun ha => ?_, ?_⟩
    · rw [w.q] at ha
      cases z : H a with
      | none => exact r.al a ha z
      | some o =>
        have := w.g.h a o z
        rw [q] at this
        cases this
        exact (r.nt a xs z).1 ha
    · cases z : G a with
      | none => rfl
      | some o =>
        have h1 := (r.fg a o z).1
        have := w.g.h a o h1
        rw [q] at this
        cases this
        rw [(r.nt a xs h1).2] at z
        cases z
  gx := r.gx
  fz := fun l o q hz => by
    obtain ⟨a, od, u, h1, h2, h3⟩ := r.fz l o q hz
    exact ⟨a, od, u, by rw [w.q]; exact h1, w.g.s _ _ h2, h3.le w.le⟩
/-- other slots, the same store -/
theorem RE.slots (r : RE K G g H σ δ) {σ' : L2.St} {e' : List Cl} (hl : σ'.length = e'.length) (h : ∀ (i : Nat) (c : Cl), e'[i]? = some c → c ≠ .no → ∃ v : V, σ'[i]? = some (some v) ∧ CR K g v c) : RE K G g H σ' ⟨e', δ.s⟩ where
  ex := r.ex
  fg := r.fg
  len := hl
  rl := r.rl
  sl := h
  ob := r.ob
  nd := r.nd
  al := r.al
  nt := r.nt
  gx := r.gx
  fz := r.fz
/-- a slot that says nothing may hold anything -/
theorem RE.sig (r : RE K G g H σ δ) (hl : σ'.length = σ.length) (h : ∀ (i : Nat) (c : Cl), δ.e[i]? = some c → c ≠ .no → σ'[i]? = σ[i]?) : RE K G g H σ' δ :=
  r.slots (σ' := σ') (e' := δ.e) (hl.trans r.len) fun i c q hc => by rw [h i c q hc]; exact r.sl i c q hc
/-- less is said -/
theorem RE.less (r : RE K G g H σ δ) {e' : List Cl} (hl : e'.length = δ.e.length) (h : ∀ (i : Nat) (c : Cl), e'[i]? = some c → c = Cl.no ∨ δ.e[i]? = some c) : RE K G g H σ ⟨e', δ.s⟩ :=
  r.slots (r.len.trans hl.symm) fun i c q hc => r.sl i c ((h i c q).resolve_left hc) hc
theorem RE.set {v : V} {c : Cl} {i : Nat} (r : RE K G g H σ δ) (h : CR K g v c) : RE K G g H (σ.set i (some v)) ⟨δ.e.set i c, δ.s⟩ :=
  r.slots (by rw [List.length_set, List.length_set]; exact r.len) fun j d q hd => by
    rcases setGet q with ⟨rfl, z⟩ | ⟨hj, z⟩
    · subst z
      have hl := set_lt q
      exact ⟨v, by rw [List.getElem?_set_self (by rw [r.len]; exact hl)], h⟩
    · rw [List.getElem?_set_ne (Ne.symm hj)]
      exact r.sl j d z hd
/-- only the store and the heap -/
theorem RE.bare (r : RE K G g H σ δ) : RE K G g H [] ⟨[], δ.s⟩ := r.slots rfl fun i c q => by simp at q
theorem RE.lift (r : RE K G g H σ δ) (e : Le g g') (r' : RE K G g' H' σ' δ') : RE K G g' H' σ ⟨δ.e, δ'.s⟩ :=
  r'.slots r.len fun i c q hc => by
    obtain ⟨v, h1, h2⟩ := r.sl i c q hc
    exact ⟨v, h1, h2.le e⟩
theorem RE.nin (r : RE K G g H σ δ) {p : Addr} (h : H p = none) : p ∉ g.r := fun z => r.al p z h
/-- new things that no name reaches -/
theorem RE.newH (r : RE K G g H σ δ) (e : Ex H H') : RE K G g H' σ δ := r.grow ⟨rfl, Ex.refl _, e, r.ex.trans e, fun _ _ => .inl rfl⟩
/-- a thing of the store changes in place -/
theorem RE.write {l : Nat} {a : Addr} {o o' : Ob} {u : HO} (r : RE K G g H σ δ) (hl : δ.s[l]? = some o) (hv : o.live = true) (ha : g.r[l]? = some a) (hu : ObR K g o' u) : RE K G g (upd H a u) σ ⟨δ.e, δ.s.set l o'⟩ := by
  obtain ⟨b, w, h1, h2, h3, h4⟩ := r.ob l o hl hv
  rw [ha] at h1
  obtain rfl : a = b := Option.some.inj h1
  have hlt : l < δ.s.length := (List.getElem?_eq_some_iff.mp hl).1
  have inj : ∀ {l' : Nat}, g.r[l']? = some a → l' = l := fun {l'} q => by
    exact nodup_at r.nd q ha
  exact {
    ex := fun b v q => by
      have hb : b ≠ a := fun z => by rw [z, h4] at q; cases q
      rw [upd_ne hb]; exact r.ex b v q
    fg := fun b v q => by
      obtain ⟨f1, f2, f3⟩ := r.fg b v q
      have hb : b ≠ a := fun z => f3 (z ▸ List.mem_of_getElem? ha)
      exact ⟨by rw [upd_ne hb]; exact f1, f2, f3⟩
    len := r.len
    rl := by rw [r.rl]; simp
    sl := r.sl
    ob := fun l' o1 q hv1 => by
      rcases setGet q with ⟨rfl, z⟩ | ⟨hj, z⟩
      · subst z; exact ⟨a, u, ha, upd_same, hu, h4⟩
      · obtain ⟨b, v, f1, f2, f3, f4⟩ := r.ob l' o1 z hv1
        have hb : b ≠ a := fun z => hj (inj (z ▸ f1))
        exact ⟨b, v, f1, by rw [upd_ne hb]; exact f2, f3, f4⟩
    nd := r.nd
    al := fun b hb => by
      by_cases hba : b = a
      · subst hba; rw [upd_same]; simp
      · rw [upd_ne hba]; exact r.al b hb
    nt := fun b xs q => by
      by_cases hba : b = a
      · subst hba
        rw [upd_same] at q
        cases q
        cases hu
      · rw [upd_ne hba] at q; exact r.nt b xs q
    gx := r.gx
    fz := fun l' o1 q hz => by
      rcases setGet q with ⟨rfl, z⟩ | ⟨hj, z⟩
      · subst z; exact (fz_not hu hz).elim
      · exact r.fz l' o1 z hz }
/-- a fresh list that nothing reaches yet -/
structure FrO (K : Frag) (G : Hp) (g : Gh) (H : Hp) (a : Addr) (xs : List Cl) : Prop where
  at_ : ∃ vs, H a = some (.lst vs) ∧ All2 (CR K g) vs xs
  hs : g.h a = none
  gg : G a = none
  nr : a ∉ g.r
/-- any fresh thing -/
structure Fro (K : Frag) (G : Hp) (g : Gh) (H : Hp) (a : Addr) (o : Ob) : Prop where
  at_ : ∃ u, H a = some u ∧ ObR K g o u
  hs : g.h a = none
  gg : G a = none
  nr : a ∉ g.r
theorem FrO.fro {a : Addr} {xs : List Cl} (f : FrO K G g H a xs) : Fro K G g H a (.lst xs) := by
  obtain ⟨⟨vs, h1, h2⟩, b, c, d⟩ := f
  exact ⟨⟨_, h1, .lst h2⟩, b, c, d⟩
/-- .. becomes one of the store's -/
theorem RE.alloc {a : Addr} {o : Ob} (r : RE K G g H σ δ) (f : Fro K G g H a o) : Le g ⟨g.r ++ [a], g.h⟩ ∧ RE K G ⟨g.r ++ [a], g.h⟩ H σ ⟨δ.e, δ.s ++ [o]⟩ := by
  have le : Le g ⟨g.r ++ [a], g.h⟩ := ⟨fun l b h => by
    have := (List.getElem?_eq_some_iff.mp h).1
    show (g.r ++ [a])[l]? = some b
    rw [List.getElem?_append_left this]; exact h, Ex.refl _⟩
  obtain ⟨⟨u, h1, h2⟩, b, c, d⟩ := f
  refine ⟨le, ?_⟩
  exact {
    ex := r.ex
    fg := fun b v q => by
      obtain ⟨f1, f2, f3⟩ := r.fg b v q
      refine ⟨f1, f2, fun z => ?_⟩
      rcases List.mem_append.mp z with z | z
      · exact f3 z
      · simp at z; subst z; rw [c] at q; cases q
    len := r.len
    rl := by simp [r.rl]
    sl := fun i k q hk => by
      obtain ⟨v, f1, f2⟩ := r.sl i k q hk
      exact ⟨v, f1, f2.le le⟩
    ob := fun l o1 q hv1 => by
      by_cases hl : l < δ.s.length
      · rw [List.getElem?_append_left hl] at q
        obtain ⟨b, v, f1, f2, f3, f4⟩ := r.ob l o1 q hv1
        exact ⟨b, v, le.r _ _ f1, f2, f3.le le, f4⟩
      · have hl' : l = δ.s.length := by
          have := (List.getElem?_eq_some_iff.mp q).1
          simp at this
          omega
        subst hl'
        rw [List.getElem?_append_right (Nat.le_refl _), Nat.sub_self] at q
        have q : o = o1 := Option.some.inj q
        subst q
        refine ⟨a, u, ?_, h1, h2.le le, b⟩
        show (g.r ++ [a])[δ.s.length]? = some a
        rw [← r.rl, List.getElem?_append_right (Nat.le_refl _), Nat.sub_self]
        rfl
    nd := List.nodup_append.mpr ⟨r.nd, by simp, fun x hx y hy => by
      simp at hy; subst hy
      exact fun z => d (z ▸ hx)⟩
    al := fun b hb => by
      rcases List.mem_append.mp hb with z | z
      · exact r.al b z
      · simp at z; subst z; rw [h1]; simp
    nt := fun b xs q => by
      have hba : b ≠ a := fun z => by
        subst z
        rw [h1] at q
        cases q
        cases h2
      obtain ⟨k1, k2⟩ := r.nt b xs q
      refine ⟨fun z => ?_, k2⟩
      rcases List.mem_append.mp z with z | z
      · exact k1 z
      · simp at z; exact hba z
    gx := r.gx
    fz := fun l o1 q hz => by
      by_cases hl : l < δ.s.length
      · rw [List.getElem?_append_left hl] at q
        obtain ⟨b, o', vs, f1, f2, f3⟩ := r.fz l o1 q hz
        exact ⟨b, o', vs, le.r _ _ f1, f2, f3.le le⟩
      · have hl' : l = δ.s.length := by
          have := (List.getElem?_eq_some_iff.mp q).1
          simp at this
          omega
        subst hl'
        rw [List.getElem?_append_right (Nat.le_refl _), Nat.sub_self] at q
        have q : o = o1 := Option.some.inj q
        subst q
        exact (fz_not h2 hz).elim }
/-- all of them data -/
def shL : List Cl → Option (List D)
  | [] => some []
  | .sh d :: cs => (shL cs).map (d :: ·)
  | _ :: _ => none
theorem shL_rps : ∀ {vs : List V} {cs : List Cl} {ds : List D}, All2 (CR K g) vs cs → shL cs = some ds → Rps K g.h vs ds
  | _, _, ds, .nil, h => by obtain rfl := Option.some.inj h; exact .nil
  | _, _, ds, .cons (b := .sh d) (bs := cs) (.sh r) t, h => by
    unfold shL at h
    cases z : shL cs with
    | none => rw [z] at h; simp at h
    | some es =>
      rw [z] at h
      have e : d :: es = ds := by simpa using h
      subst e
      exact .cons r (shL_rps t z)
  | _, _, ds, .cons (.lo r) t, h => by simp [shL] at h
theorem rps_cr : ∀ {vs : List V} {ds : List D}, Rps K g.h vs ds → All2 (CR K g) vs (ds.map Cl.sh)
  | _, _, .nil => .nil
  | _, _, .cons h t => .cons (.sh h) (rps_cr t)
theorem ex_upd' {p : Addr} {u : HO} {Hs : Hp} (e : Ex Hs H) (h : H p = some u) : Ex (upd Hs p u) H := fun c w z => by
  by_cases hc : c = p
  · subst hc; rw [upd_same] at z; cases z; exact h
  · rw [upd_ne hc] at z; exact e c w z
/-- a fresh list becomes data -/
theorem RE.freeze {a : Addr} {xs : List Cl} {ds : List D} (r : RE K G g H σ δ) (f : FrO K G g H a xs) (hd : shL xs = some ds) : ∃ g', Le g g' ∧ g'.r = g.r ∧ RE K G g' H σ δ ∧ Rp K g'.h (.ref a) (.list ds) := by
  obtain ⟨vs, h1, h2⟩ := f.at_
  have e : Ex g.h (upd g.h a (.lst vs)) := ex_new f.hs
  have le : Le g ⟨g.r, upd g.h a (.lst vs)⟩ := ⟨fun _ _ h => h, e⟩
  refine ⟨⟨g.r, upd g.h a (.lst vs)⟩, le, rfl, ?_, .lst (SqL.of upd_same) ((shL_rps h2 hd).ex e)⟩
  exact {
    ex := ex_upd' r.ex h1
    fg := fun b o q => by
      obtain ⟨f1, f2, f3⟩ := r.fg b o q
      have hb : b ≠ a := fun z => by rw [z, f.gg] at q; cases q
      exact ⟨f1, by show upd g.h a _ b = none; rw [upd_ne hb]; exact f2, f3⟩
    len := r.len
    rl := r.rl
    sl := fun i c q hc => by
      obtain ⟨v, q1, q2⟩ := r.sl i c q hc
      exact ⟨v, q1, q2.le le⟩
    ob := fun l o q hl => by
      obtain ⟨b, u, q1, q2, q3, q4⟩ := r.ob l o q hl
      have hb : b ≠ a := fun z => f.nr (z ▸ List.mem_of_getElem? q1)
      exact ⟨b, u, q1, q2, q3.le le, by show upd g.h a _ b = none; rw [upd_ne hb]; exact q4⟩
    nd := r.nd
    al := r.al
    nt := r.nt
    gx := r.gx
    fz := fun l o q hz => by
      obtain ⟨b, o', vs', f1, f2, f3⟩ := r.fz l o q hz
      exact ⟨b, o', vs', f1, e _ _ f2, f3.le le⟩ }
/-- a list of the store becomes data: it is the store's no more -/
theorem RE.seal {l : Nat} {a : Addr} {xs : List Cl} {ds : List D} (r : RE K G g H σ δ) (hl : δ.s[l]? = some (.lst xs)) (ha : g.r[l]? = some a) (hd : shL xs = some ds) : ∃ g', Le g g' ∧ g'.r = g.r ∧ RE K G g' H σ ⟨δ.e, δ.s.set l .gone⟩ ∧ Rp K g'.h (.ref a) (.list ds) := by
  obtain ⟨b, w, h1, h2, h3, h4⟩ := r.ob l _ hl rfl
  rw [ha] at h1
  obtain rfl : a = b := Option.some.inj h1
  cases h3 with
  | lst h3 =>
    rename_i vs
    have e : Ex g.h (upd g.h a (.lst vs)) := ex_new h4
    have le : Le g ⟨g.r, upd g.h a (.lst vs)⟩ := ⟨fun _ _ h => h, e⟩
    refine ⟨⟨g.r, upd g.h a (.lst vs)⟩, le, rfl, ?_, .lst (SqL.of upd_same) ((shL_rps h3 hd).ex e)⟩
    have inj : ∀ {l' : Nat}, g.r[l']? = some a → l' = l := fun {l'} q => by
      exact nodup_at r.nd q ha
    exact {
      ex := ex_upd' r.ex h2
      fg := fun b o q => by
        obtain ⟨f1, f2, f3⟩ := r.fg b o q
        have hb : b ≠ a := fun z => f3 (z ▸ List.mem_of_getElem? ha)
        exact ⟨f1, by show upd g.h a _ b = none; rw [upd_ne hb]; exact f2, f3⟩
      len := r.len
      rl := by rw [r.rl]; simp
      sl := fun i c q hc => by
        obtain ⟨v, q1, q2⟩ := r.sl i c q hc
        exact ⟨v, q1, q2.le le⟩
      ob := fun l' o q hlv => by
        rcases setGet q with ⟨rfl, z⟩ | ⟨hj, z⟩
        · subst z; cases hlv
        · obtain ⟨b, u, q1, q2, q3, q4⟩ := r.ob l' o z hlv
          have hb : b ≠ a := fun z => hj (inj (z ▸ q1))
          exact ⟨b, u, q1, q2, q3.le le, by show upd g.h a _ b = none; rw [upd_ne hb]; exact q4⟩
      nd := r.nd
      al := r.al
      nt := r.nt
      gx := r.gx
      fz := fun l' o q hz => by
        rcases setGet q with ⟨rfl, z⟩ | ⟨hj, z⟩
        · subst z; cases hz
        · obtain ⟨b, o', vs', f1, f2, f3⟩ := r.fz l' o z hz
          exact ⟨b, o', vs', f1, e _ _ f2, f3.le le⟩ }
end
end Ds
namespace Ds
open PySem PySem.Spec PyProof.Rows L2 Dn
def Post {α : Type} (K : Frag) (E : XQ) (G : Hp) (g : Gh) (σ : L2.St) (r : Res α) (Q : α → Gh → Hp → Sx → Prop) : Prop :=
  match r with
  | .ok a δ' => ∀ g' H', Le g g' → RE K G g' H' σ δ' → Q a g' H' δ'
  | .exc x δ' => ∀ g' H', Le g g' → RE K G g' H' σ δ' → E x σ H'
  | .bad => False
theorem Post.ex {α : Type} {K : Frag} {E : XQ} {G : Hp} {g g1 : Gh} {σ : L2.St} {r : Res α} {Q : α → Gh → Hp → Sx → Prop} (h : Post K E G g σ r Q) (e : Le g g1) : Post K E G g1 σ r Q := by
  cases r with
  | ok a δ' => exact fun g' H' e' r => h g' H' (e.trans e') r
  | exc x δ' => exact fun g' H' e' r => h g' H' (e.trans e') r
  | bad => exact h
theorem Post.of {α : Type} {K : Frag} {E : XQ} {G : Hp} {g : Gh} {H : Hp} {σ : L2.St} {a : α} {δ : Sx} {Q : α → Gh → Hp → Sx → Prop} (h : Post K E G g σ (.ok a δ) Q) (r : RE K G g H σ δ) : Q a g H δ := h g H (Le.refl _) r
theorem Post.grow {α : Type} {K : Frag} {E : XQ} {G : Hp} {g g' : Gh} {H H' : Hp} {σ : L2.St} {a : α} {δ : Sx} {Q : α → Gh → Hp → Sx → Prop} (h : Post K E G g σ (.ok a δ) Q) (r : RE K G g H σ δ) (w : Grw g H g' H') : Q a g' H' δ :=
  h g' H' w.le (r.grow w)
theorem Post.mono {α : Type} {K : Frag} {E : XQ} {G : Hp} {g : Gh} {σ : L2.St} {r : Res α} {Q Q' : α → Gh → Hp → Sx → Prop} (h : Post K E G g σ r Q) (k : ∀ a g' H' δ', Q a g' H' δ' → Q' a g' H' δ') : Post K E G g σ r Q' := by
  cases r with
  | ok a δ' => exact fun g' H' e r => k _ _ _ _ (h g' H' e r)
  | exc x δ' => exact h
  | bad => exact h
def Cf {α : Type} (K : Frag) (E : XQ) (m : M α) (σ : L2.St) (H : Hp) (Q : Hp → α → Gh → Hp → Sx → Prop) : Prop :=
  ∃ (G : Hp) (g : Gh) (δ : Sx), RE K G g H σ δ ∧ Post K E G g σ (m δ) (Q G)
/-- data -/
def tOf (K : Frag) (E : XQ) (m : M D) : TE := fun σ H Q => Cf K E m σ H fun _ d g' H' _ => ∀ v, Rp K g'.h v d → Q v H'
def tOfT (K : Frag) (E : XQ) (m : M Bool) : TT := fun σ H Q => Cf K E m σ H fun _ b _ H' _ => Q b H'
/-- a thing of the store -/
def tOfL (K : Frag) (E : XQ) (m : M Nat) : TE := fun σ H Q => Cf K E m σ H fun _ l g' H' _ => ∀ a, g'.r[l]? = some a → Q (.ref a) H'
/-- either -/
def tOfC (K : Frag) (E : XQ) (m : M Cl) : TE := fun σ H Q => Cf K E m σ H fun _ c g' H' _ => ∀ v, CR K g' v c → Q v H'
/-- a fresh list -/
def tOfO (K : Frag) (E : XQ) (m : M (List Cl)) : TE := fun σ H Q => Cf K E m σ H fun G xs g' H' _ => ∀ a, FrO K G g' H' a xs → Q (.ref a) H'
def tOfA (K : Frag) (E : XQ) (m : M (List Cl)) : TA := fun σ H Q => Cf K E m σ H fun _ cs g' H' _ => ∀ vs, All2 (CR K g') vs cs → Q vs H'
section
variable {K : Frag} {E : XQ} {G : Hp} {g : Gh} {H : Hp} {σ : L2.St} {δ : Sx}
theorem Cf.step {α β : Type} {ma : M α} {f : α → M β} {QQ : β → Gh → Hp → Sx → Prop} {R : Hp → α → Gh → Hp → Sx → Prop} (re : RE K G g H σ δ) (po : Post K E G g σ (mBind ma f δ) QQ)
    (k : ∀ a g1 H1 δ1, Le g g1 → RE K G g1 H1 σ δ1 → Post K E G g1 σ (f a δ1) QQ → R G a g1 H1 δ1) : Cf K E ma σ H R := by
  refine ⟨G, g, δ, re, ?_⟩
  unfold mBind at po
  cases h : ma δ with
  | ok a δ1 =>
    rw [h] at po
    exact fun g' H' e r => k a g' H' δ1 e r (Post.ex po e)
  | exc x δ1 =>
    rw [h] at po
    exact po
  | bad =>
    rw [h] at po
    exact po
theorem tOf.step {β : Type} {ma : M D} {f : D → M β} {QQ : β → Gh → Hp → Sx → Prop} {R : V → Hp → Prop} (re : RE K G g H σ δ) (po : Post K E G g σ (mBind ma f δ) QQ)
    (k : ∀ v d g1 H1 δ1, Le g g1 → RE K G g1 H1 σ δ1 → Rp K g1.h v d → Post K E G g1 σ (f d δ1) QQ → R v H1) : tOf K E ma σ H R :=
  Cf.step re po fun d g1 H1 δ1 e r p v rv => k v d g1 H1 δ1 e r rv p
theorem tOfT.step {β : Type} {ma : M Bool} {f : Bool → M β} {QQ : β → Gh → Hp → Sx → Prop} {R : Bool → Hp → Prop} (re : RE K G g H σ δ) (po : Post K E G g σ (mBind ma f δ) QQ)
    (k : ∀ b g1 H1 δ1, Le g g1 → RE K G g1 H1 σ δ1 → Post K E G g1 σ (f b δ1) QQ → R b H1) : tOfT K E ma σ H R :=
  Cf.step re po k
theorem tOfL.step {β : Type} {ma : M Nat} {f : Nat → M β} {QQ : β → Gh → Hp → Sx → Prop} {R : V → Hp → Prop} (re : RE K G g H σ δ) (po : Post K E G g σ (mBind ma f δ) QQ)
    (k : ∀ a l g1 H1 δ1, Le g g1 → RE K G g1 H1 σ δ1 → g1.r[l]? = some a → Post K E G g1 σ (f l δ1) QQ → R (.ref a) H1) : tOfL K E ma σ H R :=
  Cf.step re po fun l g1 H1 δ1 e r p a ha => k a l g1 H1 δ1 e r ha p
theorem tOfC.step {β : Type} {ma : M Cl} {f : Cl → M β} {QQ : β → Gh → Hp → Sx → Prop} {R : V → Hp → Prop} (re : RE K G g H σ δ) (po : Post K E G g σ (mBind ma f δ) QQ)
    (k : ∀ v c g1 H1 δ1, Le g g1 → RE K G g1 H1 σ δ1 → CR K g1 v c → Post K E G g1 σ (f c δ1) QQ → R v H1) : tOfC K E ma σ H R :=
  Cf.step re po fun c g1 H1 δ1 e r p v rv => k v c g1 H1 δ1 e r rv p
theorem tOfA.step {β : Type} {ma : M (List Cl)} {f : List Cl → M β} {QQ : β → Gh → Hp → Sx → Prop} {R : List V → Hp → Prop} (re : RE K G g H σ δ) (po : Post K E G g σ (mBind ma f δ) QQ)
    (k : ∀ vs cs g1 H1 δ1, Le g g1 → RE K G g1 H1 σ δ1 → All2 (CR K g1) vs cs → Post K E G g1 σ (f cs δ1) QQ → R vs H1) : tOfA K E ma σ H R :=
  Cf.step re po fun cs g1 H1 δ1 e r p vs rv => k vs cs g1 H1 δ1 e r rv p
theorem tOfO.step {β : Type} {ma : M (List Cl)} {f : List Cl → M β} {QQ : β → Gh → Hp → Sx → Prop} {R : V → Hp → Prop} (re : RE K G g H σ δ) (po : Post K E G g σ (mBind ma f δ) QQ)
    (k : ∀ a xs g1 H1 δ1, Le g g1 → RE K G g1 H1 σ δ1 → FrO K G g1 H1 a xs → Post K E G g1 σ (f xs δ1) QQ → R (.ref a) H1) : tOfO K E ma σ H R :=
  Cf.step re po fun xs g1 H1 δ1 e r p a fa => k a xs g1 H1 δ1 e r fa p
theorem Cf.last {α : Type} {ma : M α} {R : Hp → α → Gh → Hp → Sx → Prop} (re : RE K G g H σ δ) (po : Post K E G g σ (ma δ) (R G)) : Cf K E ma σ H R := ⟨G, g, δ, re, po⟩
theorem Post.opt {α : Type} {o : Option α} {QQ : α → Gh → Hp → Sx → Prop} (po : Post K E G g σ (mOpt o δ) QQ) : ∃ a, o = some a ∧ Post K E G g σ (.ok a δ) QQ := by
  unfold mOpt at po
  cases o with
  | none => exact po.elim
  | some a => exact ⟨a, rfl, po⟩
theorem Post.optB {α β : Type} {o : Option α} {f : α → M β} {QQ : β → Gh → Hp → Sx → Prop} (po : Post K E G g σ (mBind (mOpt o) f δ) QQ) : ∃ a, o = some a ∧ Post K E G g σ (f a δ) QQ := by
  cases o with
  | none => exact po.elim
  | some a => exact ⟨a, rfl, po⟩
end
section
variable {X : Cx} {E : XQ} {a b e : Expr} {pos : Pos} {ma mb m : M D}
def mCl (i : Nat) : M Cl := fun δ => match δ.e[i]? with
  | some (.sh d) => .ok (.sh d) δ
  | some (.lo l) => .ok (.lo l) δ
  | _ => .bad
def toD : Cl → Option D
  | .sh d => some d
  | _ => none
def toL : Cl → Option Nat
  | .lo l => some l
  | _ => none
def mVar (i : Nat) : M D := fun δ => match δ.e[i]? with
  | some (.sh d) => .ok d δ
  | _ => .bad
def mLV (i : Nat) : M Nat := fun δ => match δ.e[i]? with
  | some (.lo l) => .ok l δ
  | _ => .bad
theorem je_var {i : Nat} {x : Str} (hN : X.N[i]? = some x) (hv : Vis X.env.scope x) (hd : (x == ("__debug__" : Str)) = false := by decide) (hcd : (x == ("__classdict__" : Str)) = false := by decide) : PE X (.Name x pos) (tOf X.K E (mVar i)) :=
  pe_imp (pe_var hN hv hd hcd) fun σ H Q ⟨G, g, δ, re, po⟩ => by
    unfold mVar at po
    split at po
    · rename_i d hd
      obtain ⟨v, h1, h2⟩ := re.sl i _ hd (by simp)
      cases h2 with
      | sh h2 => exact ⟨v, h1, po g H (Le.refl _) re v h2⟩
    · exact po.elim
theorem jl_var {i : Nat} {x : Str} (hN : X.N[i]? = some x) (hv : Vis X.env.scope x) (hd : (x == ("__debug__" : Str)) = false := by decide) (hcd : (x == ("__classdict__" : Str)) = false := by decide) : PE X (.Name x pos) (tOfL X.K E (mLV i)) :=
  pe_imp (pe_var hN hv hd hcd) fun σ H Q ⟨G, g, δ, re, po⟩ => by
    unfold mLV at po
    split at po
    · rename_i d hd
      obtain ⟨v, h1, h2⟩ := re.sl i _ hd (by simp)
      cases h2 with
      | lo h2 => exact ⟨_, h1, po g H (Le.refl _) re _ h2⟩
    · exact po.elim
/-- data or a thing, as a cell -/
def mSh (m : M D) : M Cl := mBind m fun d => mPure (.sh d)
def mLo (m : M Nat) : M Cl := mBind m fun l => mPure (.lo l)
theorem jc_sh (h : PE X e (tOf X.K E m)) : PE X e (tOfC X.K E (mSh m)) :=
  pe_imp h fun σ H Q ⟨G, g, δ, re, po⟩ => tOf.step re po fun v d g1 H1 δ1 e1 re1 r1 po1 => Post.of po1 re1 v (.sh r1)
theorem jc_lo {m : M Nat} (h : PE X e (tOfL X.K E m)) : PE X e (tOfC X.K E (mLo m)) :=
  pe_imp h fun σ H Q ⟨G, g, δ, re, po⟩ => tOfL.step re po fun a l g1 H1 δ1 e1 re1 r1 po1 => Post.of po1 re1 _ (.lo r1)
def mD (m : M Cl) : M D := mBind m fun c => mOpt (toD c)
def mL (m : M Cl) : M Nat := mBind m fun c => mOpt (toL c)
theorem je_cell {m : M Cl} (h : PE X e (tOfC X.K E m)) : PE X e (tOf X.K E (mD m)) :=
  pe_imp h fun σ H Q ⟨G, g, δ, re, po⟩ => tOfC.step re po fun v c g1 H1 δ1 e1 re1 r1 po1 => by
    obtain ⟨d, hd, po2⟩ := Post.opt po1
    cases r1 with
    | sh r => cases hd; exact Post.of po2 re1 v r
    | lo r => cases hd
    | tp r t => cases hd
theorem jl_cell {m : M Cl} (h : PE X e (tOfC X.K E m)) : PE X e (tOfL X.K E (mL m)) :=
  pe_imp h fun σ H Q ⟨G, g, δ, re, po⟩ => tOfC.step re po fun v c g1 H1 δ1 e1 re1 r1 po1 => by
    obtain ⟨d, hd, po2⟩ := Post.opt po1
    cases r1 with
    | sh r => cases hd
    | lo r => cases hd; exact Post.of po2 re1 _ r
    | tp r t => cases hd
/-- a constant -/
def mC (d : D) : M D := mPure d
theorem je_c {t : TE} {d : D} {v : V} (h : PE X e (tC v)) (hv : ∀ H, Rp X.K H v d) : PE X e (tOf X.K E (mC d)) :=
  pe_imp h fun σ H Q ⟨G, g, δ, re, po⟩ => Post.of po re v (hv g.h)
theorem je_int {i : Int} {j pos} : PE X (.Constant (.int i) j pos) (tOf X.K E (mC (.int i))) := je_c (t := tC (.int i)) pe_int fun _ => .int i
theorem je_bl {i : Bool} {j pos} : PE X (.Constant (.bool i) j pos) (tOf X.K E (mC (.bool i))) := je_c (t := tC (.bl i)) pe_bl fun _ => .bl i
theorem je_non {j pos} : PE X (.Constant .none j pos) (tOf X.K E (mC .none)) := je_c (t := tC .non) pe_non fun _ => .non
theorem je_str {x : Str} {j pos} : PE X (.Constant (.str x) j pos) (tOf X.K E (mC (.str x))) := je_c (t := tC (.str x)) pe_str fun _ => .str x
theorem je_glob {x : Str} {v : V} {u : Value} {d : D} (hg : Gl X x) (hm : X.mg x = some u) (r : RelV v u) (hv : ∀ H, Rp X.K H v d) (hd : (x == ("__debug__" : Str)) = false := by decide) : PE X (.Name x pos) (tOf X.K E (mC d)) := je_c (t := tC v) (pe_glob hg hm r hd) hv
def mBin (f : D → D → Option D) (ma mb : M D) : M D := mBind ma fun d => mBind mb fun e => mOpt (f d e)
theorem binS {r : R2} {f : D → D → Option D} (hr : OpS X.K r f) {σ : L2.St} {H : Hp} {Q : VK} (h : tOf X.K E (mBin f ma mb) σ H Q) : tOp r (tOf X.K E ma) (tOf X.K E mb) σ H Q := by
  obtain ⟨G, g, δ, re, po⟩ := h
  refine tOf.step re po fun x d g1 H1 δ1 e1 re1 r1 po1 => ?_
  refine tOf.step re1 po1 fun y e g2 H2 δ2 e2 re2 r2 po2 => ?_
  obtain ⟨c, hc, po3⟩ := Post.opt po2
  exact hr g2.h H2 x y d e c Q re2.ex (r1.ex e2.h) r2 hc fun v Hs' H' w rv => Post.grow po3 re2 (Grw.of w) v rv
theorem je_bin {op : Operator} {r : R2} {f : D → D → Option D} (ho : OpR X (binaryOp op) r) (hr : OpS X.K r f) (ha : PE X a (tOf X.K E ma)) (hb : PE X b (tOf X.K E mb)) : PE X (.BinOp a op b pos) (tOf X.K E (mBin f ma mb)) :=
  pe_imp (pe_op ho ha hb) fun _ _ _ h => binS hr h
theorem je_cmp {op : CmpOp} {r : R2} {f : D → D → Option D} (ho : OpR X (compareOp op) r) (hr : OpS X.K r f) (ha : PE X a (tOf X.K E ma)) (hb : PE X b (tOf X.K E mb)) (hm : behindInMarks op b = false) : PE X (.Compare a [op] [b] pos) (tOf X.K E (mBin f ma mb)) :=
  pe_imp (pe_cmpR ho ha hb hm) fun _ _ _ h => binS hr h
def mTest (m : M D) : M Bool := mBind m fun d => mOpt (toB d)
theorem testS {t : TE} {m : M D} (h : ∀ σ H Q, tOf X.K E m σ H Q → t σ H Q) {σ : L2.St} {H : Hp} {Q : Bool → Hp → Prop} (q : tOfT X.K E (mTest m) σ H Q) : tTest t σ H Q := by
  obtain ⟨G, g, δ, re, po⟩ := q
  refine h _ _ _ (tOf.step re po fun x d g1 H1 δ1 e1 re1 r1 po1 => ?_)
  obtain ⟨c, hc, po3⟩ := Post.opt po1
  cases r1 <;> simp [toB] at hc
  subst hc
  exact ⟨_, rfl, Post.of po3 re1⟩
theorem jt_cmp {op : CmpOp} {r : R2} {f : D → D → Option D} (ho : OpR X (compareOp op) r) (hr : OpS X.K r f) (ha : PE X a (tOf X.K E ma)) (hb : PE X b (tOf X.K E mb)) (hm : behindInMarks op b = false) : PT X (.Compare a [op] [b] pos) (tOfT X.K E (mTest (mBin f ma mb))) :=
  pt_imp (pt_cmpR ho ha hb hm) fun _ _ _ h => testS (fun _ _ _ => binS hr) h
theorem jt_val {m : M D} (h : PE X e (tOf X.K E m)) (he : ∀ whole, isTrue e X.env whole = (do let v ← whole; standAt e.pos; holding [v] (truthy v)) := by intro _; rfl) : PT X e (tOfT X.K E (mTest m)) :=
  pt_imp (pt_val h he) fun _ _ _ q => testS (fun _ _ _ z => z) q
def mChain (f f' : D → D → Option D) (ma mb mc : M D) : M D := mBind ma fun d => mBind mb fun e => mBind (mOpt ((f d e).bind toB)) fun k => if k then mBind mc fun z => mOpt (f' e z) else mPure (.bool false)
variable {c : Expr} {mc : M D}
theorem je_ix (ha : PE X a (tOf X.K E ma)) (hb : PE X b (tOf X.K E mb)) (hs : PlainIx b) : PE X (.Subscript a b pos) (tOf X.K E (mBin dIx ma mb)) :=
  pe_imp (pe_ix ix_seq ha hb hs) fun _ _ _ h => binS os_ix h
def tOfP (K : Frag) (E : XQ) (m : M (Option Int)) : TO := fun σ H Q => Cf K E m σ H fun _ o _ H' _ => Q o H'
def mPart (m : M D) : M (Option Int) := mBind m fun d => mOpt (toI d)
def mNoPart : M (Option Int) := mPure none
theorem jp_none : PO X none (tOfP X.K E mNoPart) := ⟨fun pins s σ H Q I ⟨G, g, δ, re, po⟩ => po_none.run pins s σ H Q I (Post.of po re)⟩
theorem jp_some (h : PE X e (tOf X.K E m)) : PO X (some e) (tOfP X.K E (mPart m)) := ⟨fun pins s σ H Q I ⟨G, g, δ, re, po⟩ => (po_some h).run pins s σ H Q I (by
  refine tOf.step re po fun x d g1 H1 δ1 e1 re1 r1 po1 => ?_
  obtain ⟨c, hc, po3⟩ := Post.opt po1
  cases r1 <;> simp [toI] at hc
  subst hc
  exact ⟨_, rfl, Post.of po3 re1⟩)⟩
def mSl (m : M D) (ml mh : M (Option Int)) : M D := mBind m fun d => mBind ml fun l => mBind mh fun h => mOpt (dSl d l h)
theorem je_slice {lo hi : Option Expr} {ml mh : M (Option Int)} {p2 : Pos} (he : PE X e (tOf X.K E m)) (hl : PO X lo (tOfP X.K E ml)) (hu : PO X hi (tOfP X.K E mh)) : PE X (.Subscript e (.Slice lo hi none p2) pos) (tOf X.K E (mSl m ml mh)) :=
  pe_imp (pe_slice sl_Z he hl hu) fun σ H Q ⟨G, g, δ, re, po⟩ => by
    refine tOf.step re po fun x d g1 H1 δ1 e1 re1 r1 po1 => ?_
    refine Cf.step re1 po1 fun l g2 H2 δ2 e2 re2 po2 => ?_
    refine Cf.step re2 po2 fun u g3 H3 δ3 e3 re3 po3 => ?_
    obtain ⟨c, hc, po4⟩ := Post.opt po3
    exact slS re3.ex ((r1.ex e2.h).ex e3.h) hc fun v Hs' H' w rv => Post.grow po4 re3 (Grw.of w) v rv
variable {t1 t2 : M Bool} {rest : List Expr}
def mAndT (t1 t2 : M Bool) : M Bool := mBind t1 fun b => if b then t2 else mPure false
def mOrT (t1 t2 : M Bool) : M Bool := mBind t1 fun b => if b then mPure true else t2
def mNotT (t : M Bool) : M Bool := mBind t fun b => mPure (!b)
theorem jt_not (h : PT X a (tOfT X.K E t1)) : PT X (.UnaryOp .Not a pos) (tOfT X.K E (mNotT t1)) :=
  pt_imp (pt_not h) fun σ H Q ⟨G, g, δ, re, po⟩ => tOfT.step re po fun b g1 H1 δ1 e1 re1 po1 => Post.of po1 re1
theorem jw_and1 (h : PT X a (tOfT X.K E t1)) : PW X (.BoolOp .And [a] pos) (tOfT X.K E t1) := pw_and1 h
theorem jw_or1 (h : PT X a (tOfT X.K E t1)) : PW X (.BoolOp .Or [a] pos) (tOfT X.K E t1) := pw_or1 h
theorem jw_and (h : PT X a (tOfT X.K E t1)) (h2 : PW X (.BoolOp .And (b :: rest) pos) (tOfT X.K E t2)) : PW X (.BoolOp .And (a :: b :: rest) pos) (tOfT X.K E (mAndT t1 t2)) :=
  pw_imp (pw_and h h2) fun σ H Q ⟨G, g, δ, re, po⟩ => tOfT.step re po fun b g1 H1 δ1 e1 re1 po1 => by
    cases b with
    | true => exact Cf.last re1 po1
    | false => exact Post.of po1 re1
theorem jw_or (h : PT X a (tOfT X.K E t1)) (h2 : PW X (.BoolOp .Or (b :: rest) pos) (tOfT X.K E t2)) : PW X (.BoolOp .Or (a :: b :: rest) pos) (tOfT X.K E (mOrT t1 t2)) :=
  pw_imp (pw_or h h2) fun σ H Q ⟨G, g, δ, re, po⟩ => tOfT.step re po fun b g1 H1 δ1 e1 re1 po1 => by
    cases b with
    | true => exact Post.of po1 re1
    | false => exact Cf.last re1 po1
def mAndV (m1 m2 : M D) : M D := mBind (mTest m1) fun b => if b then m2 else mPure (.bool false)
def mOrV (m1 m2 : M D) : M D := mBind (mTest m1) fun b => if b then mPure (.bool true) else m2
def mNotV (m : M D) : M D := mBind (mTest m) fun b => mPure (.bool (!b))
theorem bind_assoc {α β γ : Type} {m : M α} {f : α → M β} {h : β → M γ} (δ : Sx) : mBind (mBind m f) h δ = mBind m (fun a => mBind (f a) h) δ := by
  unfold mBind
  cases m δ <;> rfl
theorem testV {G : Hp} {g : Gh} {H : Hp} {σ : L2.St} {δ : Sx} {β : Type} {f : Bool → M β} {QQ : β → Gh → Hp → Sx → Prop} {K : Frag} {R : V → Hp → Prop} (re : RE K G g H σ δ) (po : Post K E G g σ (mBind (mTest m) f δ) QQ)
    (k : ∀ b g1 H1 δ1, Le g g1 → RE K G g1 H1 σ δ1 → Post K E G g1 σ (f b δ1) QQ → R (.bl b) H1) : tOf K E m σ H R := by
  unfold mTest at po
  rw [bind_assoc] at po
  refine tOf.step re po fun x d g1 H1 δ1 e1 re1 r1 po1 => ?_
  cases r1 with
  | bl b => exact k b g1 H1 δ1 e1 re1 po1
  | _ => exact po1.elim
theorem je_and (h : PE X a (tOf X.K E ma)) (h2 : PE X (.BoolOp .And (b :: rest) pos) (tOf X.K E mb)) : PE X (.BoolOp .And (a :: b :: rest) pos) (tOf X.K E (mAndV ma mb)) :=
  pe_imp (pe_and h h2) fun σ H Q ⟨G, g, δ, re, po⟩ => testV re po fun b g1 H1 δ1 e1 re1 po1 => ⟨b, rfl, by
    cases b with
    | true => exact Cf.last re1 po1
    | false => exact Post.of po1 re1 _ (.bl false)⟩
theorem je_one {op : BoolOp} (h : PE X a (tOf X.K E ma)) : PE X (.BoolOp op [a] pos) (tOf X.K E ma) := pe_one h
theorem je_not (h : PE X a (tOf X.K E ma)) : PE X (.UnaryOp .Not a pos) (tOf X.K E (mNotV ma)) :=
  pe_imp (pe_not h) fun σ H Q ⟨G, g, δ, re, po⟩ => testV re po fun b g1 H1 δ1 e1 re1 po1 => ⟨b, rfl, Post.of po1 re1 _ (.bl _)⟩
def mIfE (t : M Bool) (m1 m2 : M D) : M D := mBind t fun b => if b then m1 else m2
theorem je_if {c : Expr} (hc : PT X c (tOfT X.K E t1)) (h : PE X a (tOf X.K E ma)) (h2 : PE X b (tOf X.K E mb)) : PE X (.IfExp c a b pos) (tOf X.K E (mIfE t1 ma mb)) :=
  pe_imp (pe_ifExp hc h h2) fun σ H Q ⟨G, g, δ, re, po⟩ => tOfT.step re po fun b g1 H1 δ1 e1 re1 po1 => by
    cases b with
    | true => exact Cf.last re1 po1
    | false => exact Cf.last re1 po1
def mNeg (m : M D) : M D := mBind m fun d => mOpt (dNeg d)
theorem je_neg (h : PE X a (tOf X.K E ma)) : PE X (.UnaryOp .USub a pos) (tOf X.K E (mNeg ma)) :=
  pe_imp (pe_un un_neg h) fun σ H Q ⟨G, g, δ, re, po⟩ => tOf.step re po fun x d g1 H1 δ1 e1 re1 r1 po1 => by
    obtain ⟨c, hc, po3⟩ := Post.opt po1
    cases r1 <;> simp [dNeg] at hc
    subst hc
    exact ⟨_, rfl, Post.of po3 re1 _ (.int _)⟩
/-- a fresh list, as data, as one of the store's -/
def mFr (m : M (List Cl)) : M D := mBind m fun xs => mOpt ((shL xs).map PyData.list)
theorem je_fr {m : M (List Cl)} (h : PE X e (tOfO X.K E m)) : PE X e (tOf X.K E (mFr m)) :=
  pe_imp h fun σ H Q ⟨G, g, δ, re, po⟩ => tOfO.step re po fun a xs g1 H1 δ1 e1 re1 f1 po1 => by
    obtain ⟨d, hd, po2⟩ := Post.opt po1
    obtain ⟨ds, h1, h2⟩ := Option.map_eq_some_iff.mp hd
    subst h2
    obtain ⟨g2, k1, _, k2, k3⟩ := re1.freeze f1 h1
    exact po2 g2 H1 k1 k2 _ k3
def mAll (o : Ob) : M Nat := fun δ => .ok δ.s.length ⟨δ.e, δ.s ++ [o]⟩
def mNew (m : M (List Cl)) : M Nat := mBind m fun xs => mAll (.lst xs)
theorem allS {K : Frag} {G : Hp} {g : Gh} {H : Hp} {σ : L2.St} {δ : Sx} {a : Addr} {o : Ob} {QQ : Nat → Gh → Hp → Sx → Prop} (re : RE K G g H σ δ) (f : Fro K G g H a o) (po : Post K E G g σ (mAll o δ) QQ) : ∃ g', QQ δ.s.length g' H ⟨δ.e, δ.s ++ [o]⟩ ∧ g'.r[δ.s.length]? = some a := by
  obtain ⟨le, re'⟩ := re.alloc f
  refine ⟨_, po _ H le re', ?_⟩
  show (g.r ++ [a])[δ.s.length]? = some a
  rw [← re.rl, List.getElem?_append_right (Nat.le_refl _), Nat.sub_self]
  rfl
theorem jl_new {m : M (List Cl)} (h : PE X e (tOfO X.K E m)) : PE X e (tOfL X.K E (mNew m)) :=
  pe_imp h fun σ H Q ⟨G, g, δ, re, po⟩ => tOfO.step re po fun a xs g1 H1 δ1 e1 re1 f1 po1 => by
    obtain ⟨g2, k1, k2⟩ := allS re1 f1.fro po1
    exact k1 a k2
/-- a list of the store, at last data -/
def mSeal (m : M Nat) : M D := mBind m fun l δ => match δ.s[l]? with
  | some (.lst xs) => match shL xs with
    | some ds => .ok (.list ds) ⟨δ.e, δ.s.set l .gone⟩
    | none => .bad
  | _ => .bad
theorem je_seal {m : M Nat} (h : PE X e (tOfL X.K E m)) : PE X e (tOf X.K E (mSeal m)) :=
  pe_imp h fun σ H Q ⟨G, g, δ, re, po⟩ => tOfL.step re po fun a l g1 H1 δ1 e1 re1 f1 po1 => by
    split at po1
    · rename_i xs hx
      split at po1
      · rename_i ds hd
        obtain ⟨g2, k1, _, k2, k3⟩ := re1.seal hx f1 hd
        exact po1 g2 H1 k1 k2 _ k3
      · exact po1.elim
    · exact po1.elim
end
end Ds
namespace Ds
open PySem PySem.Spec PyProof.Rows L2 Dn
def evA : List (M Cl) → M (List Cl)
  | [] => mPure []
  | m :: as => mBind m fun c => mBind (evA as) fun cs => mPure (c :: cs)
/-- what a cell holds now, as data -/
def snap (s : List Ob) : Cl → Option D
  | .sh d => some d
  | .lo l => match s[l]? with
    | some (.lst xs) => (shL xs).map PyData.list
    | _ => none
  | .tp cs => (shL cs).map PyData.tuple
  | .no => none
def snaps (s : List Ob) : List Cl → Option (List D)
  | [] => some []
  | c :: cs => (snap s c).bind fun d => (snaps s cs).map (d :: ·)
section
variable {K : Frag} {G : Hp} {g : Gh} {H : Hp} {σ : L2.St} {δ : Sx}
theorem RE.lstAt (r : RE K G g H σ δ) {l : Nat} {a : Addr} {xs : List Cl} (h : g.r[l]? = some a) (hx : δ.s[l]? = some (.lst xs)) : ∃ vs, H a = some (.lst vs) ∧ All2 (CR K g) vs xs := by
  obtain ⟨b, u, h1, h2, h3, h4⟩ := r.ob l _ hx rfl
  rw [h] at h1
  cases h1
  cases h3 with
  | lst h3 => exact ⟨_, h2, h3⟩
theorem snap_lo {s : List Ob} {l : Nat} {d : D} (h : snap s (.lo l) = some d) : ∃ xs ds, s[l]? = some (.lst xs) ∧ shL xs = some ds ∧ d = .list ds := by
  have h : (match s[l]? with
    | some (.lst xs) => (shL xs).map PyData.list
    | _ => none) = some d := h
  split at h
  · rename_i xs hx
    obtain ⟨ds, h3, h4⟩ := Option.map_eq_some_iff.mp h
    exact ⟨xs, ds, hx, h3, h4.symm⟩
  · cases h
theorem snap_rp (r : RE K G g H σ δ) : ∀ {v : V} {c : Cl} {d : D}, CR K g v c → snap δ.s c = some d → Rp K H v d
  | _, _, d, .sh h, q => by cases q; exact h.ex r.ex
  | _, .lo l, d, .lo h, q => by
    obtain ⟨xs, ds, hx, h3, rfl⟩ := snap_lo q
    obtain ⟨vs, h1, h2⟩ := r.lstAt h hx
    exact .lst (SqL.of h1) ((shL_rps h2 h3).ex r.ex)
  | _, .tp cs, d, .tp h t, q => by
    obtain ⟨ds, h3, rfl⟩ := Option.map_eq_some_iff.mp q
    exact .tup (h.ex r.ex) ((shL_rps (CRt.a t) h3).ex r.ex)
theorem snaps_rp (r : RE K G g H σ δ) : ∀ {vs : List V} {cs : List Cl} {ds : List D}, All2 (CR K g) vs cs → snaps δ.s cs = some ds → Rps K H vs ds
  | _, _, ds, .nil, q => by cases q; exact .nil
  | _, _, ds, .cons h t, q => by
    unfold snaps at q
    obtain ⟨d, h1, h2⟩ := Option.bind_eq_some_iff.mp q
    obtain ⟨es, h3, h4⟩ := Option.map_eq_some_iff.mp h2
    subst h4
    exact .cons (snap_rp r h h1) (snaps_rp r t h3)
/-- new things of no account -/
theorem Post.late {E : XQ} {α : Type} {a : α} {H' : Hp} {QQ : α → Gh → Hp → Sx → Prop} (po : Post K E G g σ (.ok a δ) QQ) (r : RE K G g H σ δ) (e : Ex H H') : QQ a g H' δ := po g H' (Le.refl _) (r.newH e)
end
section
variable {X : Cx} {E : XQ} {a b e o : Expr} {es : List Expr} {pos : Pos} {ma mb m : M D} {mc mk : M Cl} {as : List (M Cl)}
theorem ja_nil : PA X [] (tOfA X.K E (evA [])) := pa_imp pa_nil fun σ H Q ⟨G, g, δ, re, po⟩ => Post.of po re [] .nil
theorem ja_c (h : PE X e (tOfC X.K E mc)) (t : PA X es (tOfA X.K E (evA as))) (hs : starEach (e :: es) X.env = (false, eval e X.env) :: starEach es X.env := by rfl) : PA X (e :: es) (tOfA X.K E (evA (mc :: as))) :=
  pa_imp (pa_cons h t hs) fun σ H Q ⟨G, g, δ, re, po⟩ => tOfC.step re po fun v c g1 H1 δ1 e1 re1 r1 po1 => tOfA.step re1 po1 fun vs cs g2 H2 δ2 e2 re2 r2 po2 => Post.of po2 re2 (v :: vs) (.cons (r1.le e2) r2)
def mCallB (f : List D → Option D) (as : List (M Cl)) : M D := mBind (evA as) fun cs => mOpt ((shL cs).bind f)
/-- lists of the store may stand among the arguments; what comes back is flat -/
def mCallC (f : List D → Option D) (as : List (M Cl)) : M D := mBind (evA as) fun cs δ => match (snaps δ.s cs).bind f with
  | some d => if flatD d = true then .ok d δ else .bad
  | none => .bad
theorem callS {r : List V → Hp → VK → Prop} {f : List D → Option D} (hr : CallS X.K r f) {σ : L2.St} {H : Hp} {Q : VK} (h : tOf X.K E (mCallB f as) σ H Q) : tCB r (tOfA X.K E (evA as)) σ H Q := by
  obtain ⟨G, g, δ, re, po⟩ := h
  refine tOfA.step re po fun vs cs g1 H1 δ1 e1 re1 r1 po1 => ?_
  obtain ⟨c, hc, po2⟩ := Post.opt po1
  obtain ⟨ds, h1, h2⟩ := Option.bind_eq_some_iff.mp hc
  exact hr g1.h H1 vs ds c Q re1.ex (shL_rps r1 h1) h2 fun v Hs' H' w rv => Post.grow po2 re1 (Grw.of w) v rv
theorem callC {r : List V → Hp → VK → Prop} {f : List D → Option D} (hr : CallS X.K r f) {σ : L2.St} {H : Hp} {Q : VK} (h : tOf X.K E (mCallC f as) σ H Q) : tCB r (tOfA X.K E (evA as)) σ H Q := by
  obtain ⟨G, g, δ, re, po⟩ := h
  refine tOfA.step re po fun vs cs g1 H1 δ1 e1 re1 r1 po1 => ?_
  split at po1
  · rename_i d hd
    obtain ⟨ds, h1, h2⟩ := Option.bind_eq_some_iff.mp hd
    split at po1
    · rename_i hf
      exact hr H1 H1 vs ds d Q (Ex.refl _) (snaps_rp re1 r1 h1) h2 fun v Hs' H' w rv => Post.late po1 re1 w.h v (flat_free rv hf)
    · exact po1.elim
  · exact po1.elim
theorem je_callB {x : Str} {p : Pos} {id : String} {r : List V → Hp → VK → Prop} {f : List D → Option D} (hc : CallR X (.builtin id) r) (hr : CallS X.K r f) (hg : Gl X x) (hm : X.mg x = none) (hv : bootBuiltins x = some (.builtin id)) (ha : PA X (e :: es) (tOfA X.K E (evA as))) (hn : x ≠ "__name__" := by decide) (hdb : (x == ("__debug__" : Str)) = false := by decide)
    (he : starEach (e :: es) X.env = (false, eval e X.env) :: starEach es X.env := by rfl) (hpl : (backTo pos (starEach es X.env)).any (·.1) = false := by rfl) : PE X (.Call (.Name x p) (e :: es) [] pos) (tOf X.K E (mCallB f as)) :=
  pe_imp (pe_callB hc hg hm hv ha hn hdb he hpl) fun _ _ _ h => callS hr h
theorem je_callTy {x : Str} {p : Pos} {T : String} {r : List V → Hp → VK → Prop} {f : List D → Option D} (hc : CallR X (.type T) r) (hr : CallS X.K r f) (hg : Gl X x) (hm : X.mg x = none) (hv : bootBuiltins x = some (.type T)) (ha : PA X (e :: es) (tOfA X.K E (evA as))) (hn : x ≠ "__name__" := by decide) (hdb : (x == ("__debug__" : Str)) = false := by decide)
    (he : starEach (e :: es) X.env = (false, eval e X.env) :: starEach es X.env := by rfl) (hpl : (backTo pos (starEach es X.env)).any (·.1) = false := by rfl) : PE X (.Call (.Name x p) (e :: es) [] pos) (tOf X.K E (mCallB f as)) :=
  pe_imp (pe_callTy hc hg hm hv ha hn hdb he hpl) fun _ _ _ h => callS hr h
theorem je_callBC {x : Str} {p : Pos} {id : String} {r : List V → Hp → VK → Prop} {f : List D → Option D} (hc : CallR X (.builtin id) r) (hr : CallS X.K r f) (hg : Gl X x) (hm : X.mg x = none) (hv : bootBuiltins x = some (.builtin id)) (ha : PA X (e :: es) (tOfA X.K E (evA as))) (hn : x ≠ "__name__" := by decide) (hdb : (x == ("__debug__" : Str)) = false := by decide)
    (he : starEach (e :: es) X.env = (false, eval e X.env) :: starEach es X.env := by rfl) (hpl : (backTo pos (starEach es X.env)).any (·.1) = false := by rfl) : PE X (.Call (.Name x p) (e :: es) [] pos) (tOf X.K E (mCallC f as)) :=
  pe_imp (pe_callB hc hg hm hv ha hn hdb he hpl) fun _ _ _ h => callC hr h
/-- list(x): a fresh one -/
def itemsD : D → Option (List D)
  | .list xs => some xs
  | .tuple xs => some xs
  | _ => none
def mListOf (mc : M Cl) : M (List Cl) := mBind (evA [mc]) fun cs δ => match snaps δ.s cs with
  | some [d] => match itemsD d with
    | some xs => .ok (xs.map Cl.sh) δ
    | none => .bad
  | _ => .bad
theorem FrO.new {K : Frag} {G : Hp} {g : Gh} {H : Hp} {σ : L2.St} {δ : Sx} {p : Addr} {vs : List V} {xs : List Cl} (re : RE K G g H σ δ) (hp : H p = none) (h : All2 (CR K g) vs xs) : FrO K G g (upd H p (.lst vs)) p xs :=
  ⟨⟨vs, upd_same, h⟩, ex_none re.ex hp, (by
    cases q : G p with
    | none => rfl
    | some u => have := (re.fg p u q).1; rw [hp] at this; cases this), re.nin hp⟩
/-- the items of a list or tuple: in the store, or data -/
theorem snap_items {K : Frag} {G : Hp} {g : Gh} {H : Hp} {σ : L2.St} {δ : Sx} (r : RE K G g H σ δ) {v : V} {c : Cl} {d : D} {xs : List D} (h : CR K g v c) (hs : snap δ.s c = some d) (hi : itemsD d = some xs) : ∃ p ys, v = .ref p ∧ (SqL K H p ys ∨ SqT K H p ys) ∧ Rps K g.h ys xs := by
  cases h with
  | sh h =>
    cases hs
    cases h with
    | lst h1 t => cases hi; exact ⟨_, _, rfl, .inl (sqL_ex r.ex h1), t⟩
    | tup h1 t => cases hi; exact ⟨_, _, rfl, .inr (sqT_ex r.ex h1), t⟩
    | _ => cases hi
  | lo h =>
    obtain ⟨ys, ds, hx, h3, rfl⟩ := snap_lo hs
    obtain ⟨vs, h1, h2⟩ := r.lstAt h hx
    cases hi
    exact ⟨_, vs, rfl, .inl (SqL.of h1), shL_rps h2 h3⟩
  | tp h t =>
    obtain ⟨ds, h3, rfl⟩ := Option.map_eq_some_iff.mp hs
    cases hi
    exact ⟨_, _, rfl, .inr (sqT_ex r.ex h), shL_rps (CRt.a t) h3⟩
theorem jo_listOf {p : Pos} (hg : Gl X "list") (hm : X.mg "list" = none) (hv : bootBuiltins "list" = some (.type "list")) (h : PE X e (tOfC X.K E mc))
    (he : starEach [e] X.env = (false, eval e X.env) :: starEach [] X.env := by rfl) (hpl : (backTo pos (starEach [] X.env)).any (·.1) = false := by rfl) : PE X (.Call (.Name "list" p) [e] [] pos) (tOfO X.K E (mListOf mc)) :=
  pe_imp (pe_callTy call_list_of hg hm hv (ja_c h ja_nil he) (by decide) (by decide) he hpl) fun σ H Q ⟨G, g, δ, re, po⟩ => by
    refine tOfA.step re po fun vs cs g1 H1 δ1 e1 re1 r1 po1 => ?_
    split at po1
    · rename_i d hd
      split at po1
      · rename_i xs hx
        cases r1 with
        | nil => cases hd
        | cons h t =>
          cases t with
          | cons _ _ =>
            unfold snaps at hd
            obtain ⟨d1, h1, h2⟩ := Option.bind_eq_some_iff.mp hd
            obtain ⟨es, h3, h4⟩ := Option.map_eq_some_iff.mp h2
            unfold snaps at h3
            obtain ⟨d2, h5, h6⟩ := Option.bind_eq_some_iff.mp h3
            obtain ⟨es', h7, h8⟩ := Option.map_eq_some_iff.mp h6
            subst h8
            cases h4
          | nil =>
            unfold snaps at hd
            obtain ⟨d1, h1, h2⟩ := Option.bind_eq_some_iff.mp hd
            have h2 : some [d1] = some [d] := h2
            cases h2
            obtain ⟨q, ys, hv', hsq, hr⟩ := snap_items re1 h h1 hx
            subst hv'
            exact ⟨q, ys, rfl, hsq, fun l hl => Post.late po1 re1 (ex_new hl) l (FrO.new re1 hl (rps_cr hr))⟩
      · exact po1.elim
    · exact po1.elim
/-- tuple(x), x one of the store's -/
def mTupOf (mc : M Cl) : M D := mBind (evA [mc]) fun cs δ => match snaps δ.s cs with
  | some [d] => match itemsD d with
    | some xs => .ok (.tuple xs) δ
    | none => .bad
  | _ => .bad
theorem snaps_one {K : Frag} {g : Gh} {δ : Sx} {vs : List V} {cs : List Cl} {d : D} (r1 : All2 (CR K g) vs cs) (hd : snaps δ.s cs = some [d]) : ∃ v c, vs = [v] ∧ cs = [c] ∧ CR K g v c ∧ snap δ.s c = some d := by
  cases r1 with
  | nil => cases hd
  | cons h t =>
    unfold snaps at hd
    obtain ⟨d1, h1, h2⟩ := Option.bind_eq_some_iff.mp hd
    obtain ⟨es, h3, h4⟩ := Option.map_eq_some_iff.mp h2
    cases t with
    | nil =>
      cases h3
      cases h4
      exact ⟨_, _, rfl, rfl, h, h1⟩
    | cons _ _ =>
      unfold snaps at h3
      obtain ⟨d2, h5, h6⟩ := Option.bind_eq_some_iff.mp h3
      obtain ⟨es', h7, h8⟩ := Option.map_eq_some_iff.mp h6
      subst h8
      cases h4
theorem je_tupOf {p : Pos} (hg : Gl X "tuple") (hm : X.mg "tuple" = none) (hv : bootBuiltins "tuple" = some (.type "tuple")) (h : PE X e (tOfC X.K E mc))
    (he : starEach [e] X.env = (false, eval e X.env) :: starEach [] X.env := by rfl) (hpl : (backTo pos (starEach [] X.env)).any (·.1) = false := by rfl) : PE X (.Call (.Name "tuple" p) [e] [] pos) (tOf X.K E (mTupOf mc)) :=
  pe_imp (pe_callTy call_tuple_of hg hm hv (ja_c h ja_nil he) (by decide) (by decide) he hpl) fun σ H Q ⟨G, g, δ, re, po⟩ => by
    refine tOfA.step re po fun vs cs g1 H1 δ1 e1 re1 r1 po1 => ?_
    split at po1
    · rename_i d hd
      split at po1
      · rename_i xs hx
        obtain ⟨v, c, rfl, rfl, hc, hs⟩ := snaps_one r1 hd
        cases hc with
        | sh h =>
          cases hs
          cases h with
          | lst h1 t =>
            cases hx
            exact ⟨_, _, rfl, .inl ⟨sqL_ex re1.ex h1, fun p hp => Post.grow po1 re1 (Grw.new re1.ex hp) _ (.tup (StT.of upd_same) (t.ex (Gr.new re1.ex hp).s))⟩⟩
          | tup h1 t =>
            cases hx
            exact ⟨_, _, rfl, .inr ⟨sqT_ex re1.ex h1, Post.of po1 re1 _ (.tup h1 t)⟩⟩
          | _ => cases hx
        | lo h =>
          obtain ⟨ys, ds, hxs, h3, rfl⟩ := snap_lo hs
          obtain ⟨vs, h1, h2⟩ := re1.lstAt h hxs
          cases hx
          exact ⟨_, vs, rfl, .inl ⟨SqL.of h1, fun p hp => Post.grow po1 re1 (Grw.new re1.ex hp) _ (.tup (StT.of upd_same) ((shL_rps h2 h3).ex (Gr.new re1.ex hp).s))⟩⟩
        | tp h t =>
          obtain ⟨ds, h3, rfl⟩ := Option.map_eq_some_iff.mp hs
          cases hx
          exact ⟨_, _, rfl, .inr ⟨sqT_ex re1.ex h, Post.of po1 re1 _ (.tup h (shL_rps (CRt.a t) h3))⟩⟩
      · exact po1.elim
    · exact po1.elim
def mBinC (f : D → D → Option D) (mc mk : M Cl) : M D := mBind mc fun c => mBind mk fun k δ => match (snap δ.s c).bind fun d => (snap δ.s k).bind fun e => f d e with
  | some d => if flatD d = true then .ok d δ else .bad
  | none => .bad
theorem binC {r : R2} {f : D → D → Option D} (hr : OpS X.K r f) {σ : L2.St} {H : Hp} {Q : VK} (h : tOf X.K E (mBinC f mc mk) σ H Q) : tOp r (tOfC X.K E mc) (tOfC X.K E mk) σ H Q := by
  obtain ⟨G, g, δ, re, po⟩ := h
  refine tOfC.step re po fun x d g1 H1 δ1 e1 re1 r1 po1 => ?_
  refine tOfC.step re1 po1 fun y e g2 H2 δ2 e2 re2 r2 po2 => ?_
  split at po2
  · rename_i d' hd
    obtain ⟨d1, h1, h2⟩ := Option.bind_eq_some_iff.mp hd
    obtain ⟨d2, h3, h4⟩ := Option.bind_eq_some_iff.mp h2
    split at po2
    · rename_i hf
      exact hr H2 H2 x y d1 d2 d' Q (Ex.refl _) (snap_rp re2 (r1.le e2) h1) (snap_rp re2 r2 h3) h4 fun v Hs' H' w rv => Post.late po2 re2 w.h v (flat_free rv hf)
    · exact po2.elim
  · exact po2.elim
theorem jt_cmpC {op : CmpOp} {r : R2} {f : D → D → Option D} (ho : OpR X (compareOp op) r) (hr : OpS X.K r f) (ha : PE X a (tOfC X.K E mc)) (hb : PE X b (tOfC X.K E mk)) (hm : behindInMarks op b = false) : PT X (.Compare a [op] [b] pos) (tOfT X.K E (mTest (mBinC f mc mk))) :=
  pt_imp (pt_cmpR ho ha hb hm) fun _ _ _ h => testS (fun _ _ _ => binC hr) h
def ixC (s : List Ob) (c : Cl) (e : D) : Option Cl := match c with
  | .sh d => (dIx d e).map Cl.sh
  | .lo l => match s[l]?, e with
    | some (.lst xs), .int i => atI xs i
    | _, _ => none
  | .tp cs => match e with
    | .int i => atI cs i
    | _ => none
  | .no => none
def mIxC (mc : M Cl) (m : M D) : M Cl := mBind mc fun c => mBind m fun e δ => match ixC δ.s c e with
  | some k => .ok k δ
  | none => .bad
theorem atI_all2 {α β : Type} {R : α → β → Prop} {vs : List α} {ds : List β} {i : Int} {d : β} (t : All2 R vs ds) (h : atI ds i = some d) : ∃ v, atI vs i = some v ∧ R v d := by
  unfold atI at h ⊢
  rw [t.length]
  cases q : ixN ds.length i with
  | none => rw [q] at h; simp at h
  | some j =>
    rw [q] at h
    simp only [Option.bind_some] at h ⊢
    exact t.get h
theorem jc_ix (ha : PE X a (tOfC X.K E mc)) (hb : PE X b (tOf X.K E m)) (hs : PlainIx b) : PE X (.Subscript a b pos) (tOfC X.K E (mIxC mc m)) :=
  pe_imp (pe_ix ix_seq ha hb hs) fun σ H Q ⟨G, g, δ, re, po⟩ => by
    refine tOfC.step re po fun x c g1 H1 δ1 e1 re1 r1 po1 => ?_
    refine tOf.step re1 po1 fun y e g2 H2 δ2 e2 re2 r2 po2 => ?_
    split at po2
    · rename_i k hk
      cases r1 with
      | sh h =>
        obtain ⟨d, h1, h2⟩ := Option.map_eq_some_iff.mp hk
        subst h2
        exact os_ix g2.h H2 x y _ e d Q re2.ex (h.ex e2.h) r2 h1 fun v Hs' H' w rv => Post.grow po2 re2 (Grw.of w) v (.sh rv)
      | lo h =>
        unfold ixC at hk
        dsimp only at hk
        split at hk
        · rename_i xs i hx
          obtain ⟨vs, h1, h2⟩ := re2.lstAt (e2.r _ _ h) hx
          obtain ⟨v, h3, h4⟩ := atI_all2 h2 hk
          cases r2
          exact .inl ⟨_, vs, i, v, rfl, rfl, SqL.of h1, h3, Post.of po2 re2 v h4⟩
        · cases hk
      | tp h t =>
        unfold ixC at hk
        dsimp only at hk
        split at hk
        · rename_i i
          obtain ⟨v, h3, h4⟩ := atI_all2 (CRt.a (CRt.le e2 t)) hk
          cases r2
          exact .inr (.inl ⟨_, _, _, v, rfl, rfl, sqT_ex re2.ex (h.ex e2.h), h3, Post.of po2 re2 v h4⟩)
        · cases hk
    · exact po2.elim
def mSlC (mc : M Cl) (ml mh : M (Option Int)) : M D := mBind mc fun c => mBind ml fun l => mBind mh fun h δ => match snap δ.s c with
  | some d => match dSl d l h with
    | some e => .ok e δ
    | none => .bad
  | none => .bad
theorem je_sliceC {lo hi : Option Expr} {ml mh : M (Option Int)} {p2 : Pos} (he : PE X e (tOfC X.K E mc)) (hl : PO X lo (tOfP X.K E ml)) (hu : PO X hi (tOfP X.K E mh)) : PE X (.Subscript e (.Slice lo hi none p2) pos) (tOf X.K E (mSlC mc ml mh)) :=
  pe_imp (pe_slice sl_Z he hl hu) fun σ H Q ⟨G, g, δ, re, po⟩ => by
    refine tOfC.step re po fun x c g1 H1 δ1 e1 re1 r1 po1 => ?_
    refine Cf.step re1 po1 fun l g2 H2 δ2 e2 re2 po2 => ?_
    refine Cf.step re2 po2 fun u g3 H3 δ3 e3 re3 po3 => ?_
    split at po3
    · rename_i d hd
      split at po3
      · rename_i e' he'
        have r3 := (r1.le e2).le e3
        cases r3 with
        | sh h =>
          cases hd
          exact slS re3.ex h he' fun v Hs' H' w rv => Post.grow po3 re3 (Grw.of w) v rv
        | lo h =>
          obtain ⟨ys, ds, hxs, h3, rfl⟩ := snap_lo hd
          obtain ⟨vs, h1, h2⟩ := re3.lstAt h hxs
          cases he'
          exact .inr (.inr ⟨_, vs, rfl, SqL.of h1, fun p hp => Post.grow po3 re3 (Grw.new re3.ex hp) _ (.lst (SqL.of upd_same) ((cut_rps (shL_rps h2 h3)).ex (Gr.new re3.ex hp).s))⟩)
        | tp h t =>
          obtain ⟨ds, h3, rfl⟩ := Option.map_eq_some_iff.mp hd
          exact slS re3.ex (.tup h (shL_rps (CRt.a t) h3)) he' fun v Hs' H' w rv => Post.grow po3 re3 (Grw.of w) v rv
      · exact po3.elim
    · exact po3.elim
def mIsi (T : String) (m : M D) : M D := mBind m fun d => mOpt ((kitB (tyD d) T).map PyData.bool)
theorem je_isi {T : Str} {T' : String} {p p' : Pos} (h : PE X e (tOf X.K E m)) (hg : Gl X "isinstance") (hm : X.mg "isinstance" = none) (hgT : Gl X T) (hmT : X.mg T = none) (hvT : bootBuiltins T = some (.type T')) (hnT : T ≠ "__name__" := by decide) (hdT : (T == ("__debug__" : Str)) = false := by decide)
    (he : starEach (e :: [.Name T p']) X.env = (false, eval e X.env) :: starEach [.Name T p'] X.env := by rfl) (he2 : starEach [.Name T p'] X.env = (false, eval (.Name T p') X.env) :: starEach [] X.env := by rfl) (hpl : (backTo pos (starEach [.Name T p'] X.env)).any (·.1) = false := by rfl) :
    PE X (.Call (.Name "isinstance" p) [e, .Name T p'] [] pos) (tOf X.K E (mIsi T' m)) :=
  pe_imp (pe_callB call_isi hg hm (by decide +kernel) (pa_cons h (pa_cons (pe_bltn (v := .ty T') hgT hmT hvT rfl hnT hdT) pa_nil he2) he) (by decide) (by decide) he hpl) fun σ H Q ⟨G, g, δ, re, po⟩ => by
    refine tOf.step re po fun v d g1 H1 δ1 e1 re1 r1 po1 => ?_
    obtain ⟨c, hc, po2⟩ := Post.opt po1
    obtain ⟨b, hb, hc⟩ := Option.map_eq_some_iff.mp hc
    subst hc
    exact ⟨v, .ty T', _, _, b, rfl, .ty T', ty_of re1.ex r1, kit_ty hb, Post.of po2 re1 _ (.bl b)⟩
def mM1 (f : Str → List D → Option D) (mo m : M D) : M D := mBind mo fun d => mBind (mOpt (toS d)) fun z => mBind m fun e => mOpt (f z [e])
def mM1C (f : Str → List D → Option D) (mo : M D) (mc : M Cl) : M D := mBind mo fun d => mBind (mOpt (toS d)) fun z => mBind mc fun c δ => match (snap δ.s c).bind fun e => f z [e] with
  | some d => if flatD d = true then .ok d δ else .bad
  | none => .bad
theorem je_m1 {id : String} {name : Str} {apos pos : Pos} {r : V → List V → Hp → VK → Prop} {f : Str → List D → Option D} (slot : Slot "str" name id) (ty : typeOf (.builtin id) = pure (.type "method_descriptor")) (rule : MtR X id r) (hr : MtS X.K r f) (ho : PE X o (tOf X.K E ma)) (he : PE X e (tOf X.K E m))
    (hs : starEach [e] X.env = [(false, eval e X.env)] := by rfl) (hbase : attributeBase o name X.env (eval o X.env) = eval o X.env := by rfl) (hline : (apos.endLine == pos.line) = true := by rfl) : PE X (.Call (.Attribute o name apos) [e] [] pos) (tOf X.K E (mM1 f ma m)) :=
  pe_imp (pe_m1 slot ty rule ho he hs hbase hline) fun σ H Q ⟨G, g, δ, re, po⟩ => by
    refine tOf.step re po fun v d g1 H1 δ1 e1 re1 r1 po1 => ?_
    obtain ⟨z, hz, po2⟩ := Post.optB po1
    cases r1 <;> simp [toS] at hz
    subst hz
    refine ⟨⟨_, rfl⟩, tOf.step re1 po2 fun w c g2 H2 δ2 e2 re2 r2 po3 => ?_⟩
    obtain ⟨c', hc, po4⟩ := Post.opt po3
    exact hr g2.h H2 _ _ _ c' Q re2.ex (.cons r2 .nil) hc fun v Hs' H' w rv => Post.grow po4 re2 (Grw.of w) v rv
theorem je_m1C {id : String} {name : Str} {apos pos : Pos} {r : V → List V → Hp → VK → Prop} {f : Str → List D → Option D} (slot : Slot "str" name id) (ty : typeOf (.builtin id) = pure (.type "method_descriptor")) (rule : MtR X id r) (hr : MtS X.K r f) (ho : PE X o (tOf X.K E ma)) (he : PE X e (tOfC X.K E mc))
    (hs : starEach [e] X.env = [(false, eval e X.env)] := by rfl) (hbase : attributeBase o name X.env (eval o X.env) = eval o X.env := by rfl) (hline : (apos.endLine == pos.line) = true := by rfl) : PE X (.Call (.Attribute o name apos) [e] [] pos) (tOf X.K E (mM1C f ma mc)) :=
  pe_imp (pe_m1 slot ty rule ho he hs hbase hline) fun σ H Q ⟨G, g, δ, re, po⟩ => by
    refine tOf.step re po fun v d g1 H1 δ1 e1 re1 r1 po1 => ?_
    obtain ⟨z, hz, po2⟩ := Post.optB po1
    cases r1 <;> simp [toS] at hz
    subst hz
    refine ⟨⟨_, rfl⟩, tOfC.step re1 po2 fun w c g2 H2 δ2 e2 re2 r2 po3 => ?_⟩
    split at po3
    · rename_i d' hd
      obtain ⟨d1, h1, h2⟩ := Option.bind_eq_some_iff.mp hd
      split at po3
      · rename_i hf
        exact hr H2 H2 _ _ _ d' Q (Ex.refl _) (.cons (snap_rp re2 r2 h1) .nil) h2 fun v Hs' H' w rv => Post.late po3 re2 w.h v (flat_free rv hf)
      · exact po3.elim
    · exact po3.elim
def mShs (as : List (M Cl)) : M (List D) := mBind (evA as) fun cs => mOpt ((shL cs).filter fun ds => decide (ds.length ≤ sizeLine))
def mTup (as : List (M Cl)) : M D := mBind (mShs as) fun ds => mPure (.tuple ds)
def mLst (as : List (M Cl)) : M D := mBind (mShs as) fun ds => mPure (.list ds)
def mLsO (as : List (M Cl)) : M (List Cl) := mBind (evA as) fun cs => mOpt (if cs.length ≤ sizeLine then some cs else none)
theorem mShs_step {G : Hp} {g : Gh} {H : Hp} {σ : L2.St} {δ : Sx} {β : Type} {f : List D → M β} {QQ : β → Gh → Hp → Sx → Prop} {K : Frag} {R : List V → Hp → Prop} (re : RE K G g H σ δ) (po : Post K E G g σ (mBind (mShs as) f δ) QQ)
    (k : ∀ vs ds g1 H1 δ1, Le g g1 → RE K G g1 H1 σ δ1 → Rps K g1.h vs ds → vs.length ≤ sizeLine → Post K E G g1 σ (f ds δ1) QQ → R vs H1) : tOfA K E (evA as) σ H R := by
  unfold mShs at po
  rw [bind_assoc] at po
  refine tOfA.step re po fun vs cs g1 H1 δ1 e1 re1 r1 po1 => ?_
  obtain ⟨ds, hc, po2⟩ := Post.optB po1
  obtain ⟨h1, h2⟩ := Option.filter_eq_some_iff.mp hc
  have t := shL_rps r1 h1
  exact k vs ds g1 H1 δ1 e1 re1 t (by rw [t.length]; exact of_decide_eq_true h2) po2
theorem je_tup {x1} (h : PA X es (tOfA X.K E (evA as))) : PE X (.Tuple es x1 pos) (tOf X.K E (mTup as)) :=
  pe_imp (pe_tup h) fun σ H Q ⟨G, g, δ, re, po⟩ => mShs_step re po fun vs ds g1 H1 δ1 e1 re1 t hl po1 => ⟨hl, fun p hpn =>
    Post.grow po1 re1 (Grw.new re1.ex hpn) _ (.tup (StT.of upd_same) (t.ex (Gr.new re1.ex hpn).s))⟩
theorem je_lst (h : PA X es (tOfA X.K E (evA as))) : PE X (.List es pos) (tOf X.K E (mLst as)) :=
  pe_imp (pe_lst h) fun σ H Q ⟨G, g, δ, re, po⟩ => mShs_step re po fun vs ds g1 H1 δ1 e1 re1 t hl po1 => ⟨hl, fun p hpn =>
    Post.grow po1 re1 (Grw.new re1.ex hpn) _ (.lst (SqL.of upd_same) (t.ex (Gr.new re1.ex hpn).s))⟩
theorem jo_lst (h : PA X es (tOfA X.K E (evA as))) : PE X (.List es pos) (tOfO X.K E (mLsO as)) :=
  pe_imp (pe_lst h) fun σ H Q ⟨G, g, δ, re, po⟩ => tOfA.step re po fun vs cs g1 H1 δ1 e1 re1 r1 po1 => by
    obtain ⟨ds, hc, po2⟩ := Post.opt po1
    split at hc
    · rename_i hl
      cases hc
      exact ⟨by rw [r1.length]; exact hl, fun p hpn => Post.late po2 re1 (ex_new hpn) p (FrO.new re1 hpn r1)⟩
    · cases hc
/-- a list of data, fresh: what was made as data stays data; here for a + b with lists of the store -/
def mCatO (mc mk : M Cl) : M (List Cl) := mBind mc fun c => mBind mk fun k δ => match snap δ.s c, snap δ.s k with
  | some (.list xs), some (.list ys) => if xs.length + ys.length ≤ sizeLine then .ok ((xs ++ ys).map Cl.sh) δ else .bad
  | _, _ => .bad
theorem jo_cat (ha : PE X a (tOfC X.K E mc)) (hb : PE X b (tOfC X.K E mk)) : PE X (.BinOp a .Add b pos) (tOfO X.K E (mCatO mc mk)) :=
  pe_imp (pe_op op_catR ha hb) fun σ H Q ⟨G, g, δ, re, po⟩ => tOfC.step re po fun x c g1 H1 δ1 e1 re1 r1 po1 => tOfC.step re1 po1 fun y k g2 H2 δ2 e2 re2 r2 po2 => by
    split at po2
    · rename_i xs ys hx hy
      split at po2
      · rename_i hl
        obtain ⟨p, us, e1', q1, t1⟩ := snap_items re2 (r1.le e2) hx rfl
        obtain ⟨q, ws, e2', q2, t2⟩ := snap_items re2 r2 hy rfl
        have f : ∀ {v : V} {c : Cl} {zs : List D} {p : Addr} {ys : List V}, CR X.K g2 v c → snap δ2.s c = some (.list zs) → v = .ref p → Rps X.K g2.h ys zs → (SqL X.K H2 p ys ∨ SqT X.K H2 p ys) → ∃ ys', SqL X.K H2 p ys' ∧ Rps X.K g2.h ys' zs := fun {v c zs p ys} rc hz hv t hs => by
          cases rc with
          | sh h =>
            cases hz
            cases h with
            | lst h1 t1 => cases hv; exact ⟨_, sqL_ex re2.ex h1, t1⟩
          | lo h =>
            obtain ⟨zs', ds, hxs, h3, h4⟩ := snap_lo hz
            obtain ⟨vs, h1, h2⟩ := re2.lstAt h hxs
            cases h4
            cases hv
            exact ⟨vs, SqL.of h1, shL_rps h2 h3⟩
          | tp h t =>
            obtain ⟨ds, h3, h4⟩ := Option.map_eq_some_iff.mp hz
            cases h4
        obtain ⟨us', s1, u1⟩ := f (r1.le e2) hx e1' t1 q1
        obtain ⟨ws', s2, u2⟩ := f r2 hy e2' t2 q2
        exact ⟨p, q, us', ws', e1', e2', s1, s2, by rw [u1.length, u2.length]; exact hl, fun l hln => Post.late po2 re2 (ex_new hln) l (FrO.new re2 hln (rps_cr (u1.append u2)))⟩
      · exact po2.elim
    · exact po2.elim
end
end Ds
namespace Ds
open PySem PySem.Spec PyProof.Rows L2 Dn
inductive Fl where
  | nx
  | rt (c : Cl)
  | bk
  | ct
def FlOk (K : Frag) (B : Ends) (fl : Fl) (σ : L2.St) (g : Gh) (H : Hp) : Prop := match fl with
  | .nx => B.nx σ H
  | .bk => B.bk σ H
  | .ct => B.ct σ H
  | .rt c => ∀ v, CR K g v c → B.rt v H
def PostS (K : Frag) (E : XQ) (G : Hp) (g : Gh) (r : Res Fl) (b : Fl → L2.St → Gh → Hp → Sx → Prop) : Prop := match r with
  | .ok fl δ' => ∀ σ' g' H', Le g g' → RE K G g' H' σ' δ' → b fl σ' g' H' δ'
  | .exc x δ' => ∀ σ' g' H', Le g g' → RE K G g' H' σ' δ' → E x σ' H'
  | .bad => False
abbrev PostF (K : Frag) (E : XQ) (G : Hp) (g : Gh) (r : Res Fl) (B : Ends) : Prop := PostS K E G g r fun fl σ' g' H' _ => FlOk K B fl σ' g' H'
theorem PostS.ex {K : Frag} {E : XQ} {G : Hp} {g g1 : Gh} {r : Res Fl} {b : Fl → L2.St → Gh → Hp → Sx → Prop} (h : PostS K E G g r b) (e : Le g g1) : PostS K E G g1 r b := by
  cases r with
  | ok a δ' => exact fun σ' g' H' e' r => h σ' g' H' (e.trans e') r
  | exc x δ' => exact fun σ' g' H' e' r => h σ' g' H' (e.trans e') r
  | bad => exact h
def tOfS (K : Frag) (E : XQ) (m : M Fl) : TS := fun B σ H => ∃ (G : Hp) (g : Gh) (δ : Sx), RE K G g H σ δ ∧ PostF K E G g (m δ) B
section
variable {K : Frag} {E : XQ} {G : Hp} {g : Gh} {H : Hp} {σ : L2.St} {δ : Sx} {B : Ends}
theorem Cf.stepS {α : Type} {ma : M α} {f : α → M Fl} {R : Hp → α → Gh → Hp → Sx → Prop} (re : RE K G g H σ δ) (po : PostF K E G g (mBind ma f δ) B)
    (k : ∀ a g1 H1 δ1, Le g g1 → RE K G g1 H1 σ δ1 → PostF K E G g1 (f a δ1) B → R G a g1 H1 δ1) : Cf K E ma σ H R := by
  refine ⟨G, g, δ, re, ?_⟩
  unfold mBind at po
  cases h : ma δ with
  | ok a δ1 =>
    rw [h] at po
    exact fun g' H' e r => k a g' H' δ1 e r (PostS.ex po e)
  | exc x δ1 =>
    rw [h] at po
    exact fun g' H' e r => po σ g' H' e r
  | bad =>
    rw [h] at po
    exact po
theorem tOf.stepS {ma : M D} {f : D → M Fl} {R : V → Hp → Prop} (re : RE K G g H σ δ) (po : PostF K E G g (mBind ma f δ) B)
    (k : ∀ v d g1 H1 δ1, Le g g1 → RE K G g1 H1 σ δ1 → Rp K g1.h v d → PostF K E G g1 (f d δ1) B → R v H1) : tOf K E ma σ H R :=
  Cf.stepS re po fun d g1 H1 δ1 e r p v rv => k v d g1 H1 δ1 e r rv p
theorem tOfC.stepS {ma : M Cl} {f : Cl → M Fl} {R : V → Hp → Prop} (re : RE K G g H σ δ) (po : PostF K E G g (mBind ma f δ) B)
    (k : ∀ v c g1 H1 δ1, Le g g1 → RE K G g1 H1 σ δ1 → CR K g1 v c → PostF K E G g1 (f c δ1) B → R v H1) : tOfC K E ma σ H R :=
  Cf.stepS re po fun c g1 H1 δ1 e r p v rv => k v c g1 H1 δ1 e r rv p
theorem tOfL.stepS {ma : M Nat} {f : Nat → M Fl} {R : V → Hp → Prop} (re : RE K G g H σ δ) (po : PostF K E G g (mBind ma f δ) B)
    (k : ∀ a l g1 H1 δ1, Le g g1 → RE K G g1 H1 σ δ1 → g1.r[l]? = some a → PostF K E G g1 (f l δ1) B → R (.ref a) H1) : tOfL K E ma σ H R :=
  Cf.stepS re po fun l g1 H1 δ1 e r p a ha => k a l g1 H1 δ1 e r ha p
theorem PostS.of {fl : Fl} {b : Fl → L2.St → Gh → Hp → Sx → Prop} (po : PostS K E G g (.ok fl δ) b) (re : RE K G g H σ δ) : b fl σ g H δ := po σ g H (Le.refl _) re
end
section
variable {X : Cx} {E : XQ} {a b e o : Expr} {st : Stmt} {rest : List Stmt} {pos : Pos} {m mi : M D} {mc : M Cl} {ml : M Nat} {m1 m2 : M Fl}
def mSeq (m1 m2 : M Fl) : M Fl := fun δ => match m1 δ with
  | .ok .nx δ' => m2 δ'
  | r => r
def mNx : M Fl := mPure .nx
theorem jss_nil : PSs X [] (tOfS X.K E mNx) := pss_imp pss_nil fun B σ H ⟨G, g, δ, re, po⟩ => PostS.of po re
theorem jss_one (h : PS X st (tOfS X.K E m1)) : PSs X [st] (tOfS X.K E m1) := pss_one h
theorem jss_cons (h : PS X st (tOfS X.K E m1)) (t : PSs X rest (tOfS X.K E m2)) : PSs X (st :: rest) (tOfS X.K E (mSeq m1 m2)) :=
  pss_imp (pss_cons h t) fun B σ H ⟨G, g, δ, re, po⟩ => by
    refine ⟨G, g, δ, re, ?_⟩
    unfold mSeq at po
    cases q : m1 δ with
    | ok fl δ1 =>
      rw [q] at po
      cases fl with
      | nx => exact fun σ' g' H' e r => ⟨G, g', δ1, r, PostS.ex po e⟩
      | rt s => exact po
      | bk => exact po
      | ct => exact po
    | exc x δ1 =>
      rw [q] at po
      exact po
    | bad =>
      rw [q] at po
      exact po
def mExpr (m : M Cl) : M Fl := mBind m fun _ => mNx
def mRet (m : M Cl) : M Fl := mBind m fun c => mPure (.rt c)
theorem js_ret (h : PE X e (tOfC X.K E mc)) : PS X (.Return (some e) pos) (tOfS X.K E (mRet mc)) :=
  pst_imp (ps_ret h) fun B σ H ⟨G, g, δ, re, po⟩ => tOfC.stepS re po fun v d g1 H1 δ1 e1 re1 r1 po1 => PostS.of po1 re1 v r1
def mIfS (t : M Bool) (m1 m2 : M Fl) : M Fl := mBind t fun b => if b then m1 else m2
theorem js_if {c : Expr} {sa sb : List Stmt} {t : M Bool} (hc : PT X c (tOfT X.K E t)) (h1 : PSs X sa (tOfS X.K E m1)) (h2 : PSs X sb (tOfS X.K E m2)) : PS X (.If c sa sb pos) (tOfS X.K E (mIfS t m1 m2)) :=
  pst_imp (ps_if hc h1 h2) fun B σ H ⟨G, g, δ, re, po⟩ => Cf.stepS re po fun b g1 H1 δ1 e1 re1 po1 => by
    cases b with
    | true => exact ⟨G, g1, δ1, re1, po1⟩
    | false => exact ⟨G, g1, δ1, re1, po1⟩
/-- x = e -/
def mSet (i : Nat) (m : M Cl) : M Fl := mBind m fun c => fun δ => .ok .nx ⟨δ.e.set i c, δ.s⟩
theorem js_set {i : Nat} {x : Str} {pos' : Pos} (hN : X.N.Nodup) (hi : X.N[i]? = some x) (hx : Loc X.env.scope x) (h : PE X e (tOfC X.K E mc)) (hs : swapsWith e (some (.Name x pos')) pos.line X.env = pure false := by rfl) (hf : X.fn x = true ∨ X.env.scope.names.lookup x = some .local := by first | exact .inl rfl | exact .inr rfl | assumption) :
    PS X (.Assign [.Name x pos'] e pos) (tOfS X.K E (mSet i mc)) :=
  pst_imp (ps_set hN hi hx h hs hf) fun B σ H ⟨G, g, δ, re, po⟩ => tOfC.stepS re po fun v d g1 H1 δ1 e1 re1 r1 po1 => PostS.of po1 (re1.set r1)
/-- y[i] = e, y a list of the store -/
def mSetIx (ml : M Nat) (mi : M D) (mc : M Cl) : M Fl := mBind mc fun c => mBind ml fun l => mBind mi fun e δ => match δ.s[l]?, e with
  | some (.lst xs), .int n => match ixN xs.length n with
    | some j => .ok .nx ⟨δ.e, δ.s.set l (.lst (xs.set j c))⟩
    | none => .bad
  | _, _ => .bad
theorem js_setIx {p' : Pos} {i v : Expr} (ho : PE X o (tOfL X.K E ml)) (hi : PE X i (tOf X.K E mi)) (he : PE X v (tOfC X.K E mc))
    (ha : ∀ v, assign (.Subscript o i p') X.env v = (do
      let ov ← holding [v] (eval o X.env)
      let iv ← holding [v, ov] (eval i X.env)
      standAt p'
      holding [v, ov, iv] (setItem ov iv v)
      release [v, ov, iv] []) := by intro _; rfl)
    (hs : swapsWithSole [.Subscript o i p'] v pos.line X.env = pure false := by rfl) (hw : swappedStores [.Subscript o i p'] v X.env = pure none := by rfl)
    (h1 : (assignEach [.Subscript o i p'] X.env).map (·.2) = [assign (.Subscript o i p') X.env] := by rfl) : PS X (.Assign [.Subscript o i p'] v pos) (tOfS X.K E (mSetIx ml mi mc)) :=
  pst_imp (ps_asg he (pg_sub ho hi set_list ha) hs hw h1) fun B σ H ⟨G, g, δ, re, po⟩ => by
    refine tOfC.stepS re po fun w c g1 H1 δ1 e1 re1 r1 po1 => ?_
    refine tOfL.stepS re1 po1 fun q l g2 H2 δ2 e2 re2 r2 po2 => ?_
    refine tOf.stepS re2 po2 fun u d g3 H3 δ3 e3 re3 r3 po3 => ?_
    split at po3
    · rename_i xs n hx
      split at po3
      · rename_i j hj
        cases r3
        have ha' := e3.r _ _ r2
        obtain ⟨vs, h1, h2⟩ := re3.lstAt ha' hx
        refine ⟨q, vs, _, j, rfl, rfl, h1, by rw [h2.length]; exact hj, ?_⟩
        exact PostS.of po3 (re3.write hx rfl ha' (.lst (h2.set ((r1.le e2).le e3) j)))
      · exact po3.elim
    · exact po3.elim
theorem RE.ty {K : Frag} {G : Hp} {g : Gh} {H : Hp} {σ : L2.St} {δ : Sx} (re : RE K G g H σ δ) {l : Nat} {q : Addr} {xs : List Cl} (h : g.r[l]? = some q) (hx : δ.s[l]? = some (.lst xs)) : tyV K "list" (.ref q) H := by
  obtain ⟨vs, h1, h2⟩ := re.lstAt h hx
  exact .inl ⟨rfl, vs, .inl (.inl h1)⟩
/-- y.append(e) -/
def isLst (l : Nat) : M Nat := fun δ => match δ.s[l]? with
  | some (.lst _) => .ok l δ
  | _ => .bad
theorem isLst_ok (l : Nat) (δ : Sx) : isLst l δ = .bad ∨ ∃ xs, δ.s[l]? = some (.lst xs) ∧ isLst l δ = .ok l δ := by
  unfold isLst
  split
  · rename_i xs h
    exact .inr ⟨xs, h, rfl⟩
  · exact .inl rfl
def mIsL (ml : M Nat) : M Nat := mBind ml isLst
def mApp (ml : M Nat) (mc : M Cl) : M Fl := mBind (mIsL ml) fun l => mBind mc fun c δ => match δ.s[l]? with
  | some (.lst xs) => if xs.length < sizeLine then .ok .nx ⟨δ.e, δ.s.set l (.lst (xs ++ [c]))⟩ else .bad
  | _ => .bad
theorem isLS {K : Frag} {G : Hp} {g : Gh} {H : Hp} {σ : L2.St} {δ : Sx} {B : Ends} {f : Nat → M Fl} {R : V → Hp → Prop} (re : RE K G g H σ δ) (po : PostF K E G g (mBind (mIsL ml) f δ) B)
    (k : ∀ a l g1 H1 δ1, Le g g1 → RE K G g1 H1 σ δ1 → g1.r[l]? = some a → tyV K "list" (.ref a) H1 → PostF K E G g1 (f l δ1) B → R (.ref a) H1) : tOfL K E ml σ H R := by
  unfold mIsL at po
  rw [bind_assoc] at po
  refine tOfL.stepS re po fun a l g1 H1 δ1 e1 re1 r1 po1 => ?_
  have z : ∃ xs, δ1.s[l]? = some (.lst xs) ∧ PostF K E G g1 (f l δ1) B := by
    unfold mBind at po1
    rcases isLst_ok l δ1 with h | ⟨xs, hx, h⟩
    · rw [h] at po1; exact po1.elim
    · rw [h] at po1; exact ⟨xs, hx, po1⟩
  obtain ⟨xs, hx, po2⟩ := z
  exact k a l g1 H1 δ1 e1 re1 r1 (re1.ty r1 hx) po2
theorem js_app {apos cpos : Pos} {v : Expr} (ho : PE X o (tOfL X.K E ml)) (he : PE X v (tOfC X.K E mc))
    {PE0 : PE X (.Call (.Attribute o "append" apos) [v] [] cpos) (tBM X.K "list" rAppend (tOfL X.K E ml) (tCons (tOfC X.K E mc) tNil))}
    (hs : swapsWith (.Call (.Attribute o "append" apos) [v] [] cpos) none pos.line X.env = pure false := by rfl) : PS X (.Expr (.Call (.Attribute o "append" apos) [v] [] cpos) pos) (tOfS X.K E (mApp ml mc)) :=
  pst_imp (ps_expr PE0 hs) fun B σ H ⟨G, g, δ, re, po⟩ => by
    show tBM _ _ _ _ _ _ _ _
    unfold tBM
    refine isLS re po fun q l g1 H1 δ1 e1 re1 r1 ht po1 => ⟨ht, ?_⟩
    refine tOfC.stepS re1 po1 fun w c g2 H2 δ2 e2 re2 r2 po2 => ?_
    split at po2
    · rename_i xs hx
      split at po2
      · rename_i hl
        have ha' := e2.r _ _ r1
        obtain ⟨vs, h1, h2⟩ := re2.lstAt ha' hx
        refine ⟨q, vs, w, rfl, rfl, h1, by rw [h2.length]; exact hl, ?_⟩
        exact PostS.of po2 (re2.write hx rfl ha' (.lst (h2.snoc r2)))
      · exact po2.elim
    · exact po2.elim
/-- y.pop(i) -/
def mPopAt (ml : M Nat) (mi : M D) : M Cl := mBind (mIsL ml) fun l => mBind mi fun e δ => match δ.s[l]?, e with
  | some (.lst xs), .int n => if 0 ≤ n ∧ n < xs.length ∧ xs.length ≤ sizeLine then match xs[n.toNat]? with
    | some c => .ok c ⟨δ.e, δ.s.set l (.lst (xs.eraseIdx n.toNat))⟩
    | none => .bad
    else .bad
  | _, _ => .bad
theorem isL {K : Frag} {G : Hp} {g : Gh} {H : Hp} {σ : L2.St} {δ : Sx} {β : Type} {QQ : β → Gh → Hp → Sx → Prop} {f : Nat → M β} {R : V → Hp → Prop} (re : RE K G g H σ δ) (po : Post K E G g σ (mBind (mIsL ml) f δ) QQ)
    (k : ∀ a l g1 H1 δ1, Le g g1 → RE K G g1 H1 σ δ1 → g1.r[l]? = some a → tyV K "list" (.ref a) H1 → Post K E G g1 σ (f l δ1) QQ → R (.ref a) H1) : tOfL K E ml σ H R := by
  unfold mIsL at po
  rw [bind_assoc] at po
  refine tOfL.step re po fun a l g1 H1 δ1 e1 re1 r1 po1 => ?_
  have z : ∃ xs, δ1.s[l]? = some (.lst xs) ∧ Post K E G g1 σ (f l δ1) QQ := by
    unfold mBind at po1
    rcases isLst_ok l δ1 with h | ⟨xs, hx, h⟩
    · rw [h] at po1; exact po1.elim
    · rw [h] at po1; exact ⟨xs, hx, po1⟩
  obtain ⟨xs, hx, po2⟩ := z
  exact k a l g1 H1 δ1 e1 re1 r1 (re1.ty r1 hx) po2
theorem jc_popAt {apos cpos : Pos} {v : Expr} (ho : PE X o (tOfL X.K E ml)) (he : PE X v (tOf X.K E mi))
    {PE0 : PE X (.Call (.Attribute o "pop" apos) [v] [] cpos) (tBM X.K "list" rPopAt (tOfL X.K E ml) (tCons (tOf X.K E mi) tNil))} : PE X (.Call (.Attribute o "pop" apos) [v] [] cpos) (tOfC X.K E (mPopAt ml mi)) :=
  pe_imp PE0 fun σ H Q ⟨G, g, δ, re, po⟩ => by
    show tBM _ _ _ _ _ _ _ _
    unfold tBM
    refine isL re po fun q l g1 H1 δ1 e1 re1 r1 ht po1 => ⟨ht, ?_⟩
    refine tOf.step re1 po1 fun w d g2 H2 δ2 e2 re2 r2 po2 => ?_
    split at po2
    · rename_i xs n hx
      split at po2
      · rename_i hn
        split at po2
        · rename_i c hc
          cases r2
          have ha' := e2.r _ _ r1
          obtain ⟨vs, h1, h2⟩ := re2.lstAt ha' hx
          obtain ⟨v', h3, h4⟩ := h2.get hc
          obtain ⟨n0, n1, n2⟩ := hn
          have h2l := h2.length
          have hz : sizeLine = 16777216 := rfl
          refine ⟨q, vs, n, n.toNat, v', rfl, rfl, h1, by omega, by omega, ?_, h3, ?_⟩
          · unfold seqIndex?
            have hj : (if n < 0 then n + (vs.length : Int) else n) = n := if_neg (by omega)
            have n1' : n < (vs.length : Int) := by omega
            simp [hj, n0, n1']
          · exact (po2 g2 _ (Le.refl _) (re2.write hx rfl ha' (.lst (h2.erase n.toNat)))) v' h4
        · exact po2.elim
      · exact po2.elim
    · exact po2.elim
end
end Ds
namespace Ds
open PySem PySem.Spec PyProof.Rows L2 Dn
abbrev MG (α : Type) := α → List Cl → Option (List Cl)
def gOf (K : Frag) (gv : List Nat) (mg : MG Cl) : TG := fun v σ H Q => ∃ (G : Hp) (g : Gh) (δ : Sx) (c : Cl), RE K G g H σ δ ∧ CR K g v c ∧
  ∃ e', mg c δ.e = some e' ∧ ∀ σ', RE K G g H σ' ⟨e', δ.s⟩ → Off gv σ σ' → Q σ' H
def gOfs (K : Frag) (gv : List Nat) (mg : MG (List Cl)) : TGs := fun vs σ H Q => ∃ (G : Hp) (g : Gh) (δ : Sx) (cs : List Cl), RE K G g H σ δ ∧ All2 (CR K g) vs cs ∧
  ∃ e', mg cs δ.e = some e' ∧ ∀ σ', RE K G g H σ' ⟨e', δ.s⟩ → Off gv σ σ' → Q σ' H
section
variable {X : Cx} {E : XQ} {pos : Pos} {e : Expr} {mc : M Cl}
def mgName (i : Nat) : MG Cl := fun c e => some (e.set i c)
theorem jg_name {i : Nat} {x : Str} (hN : X.N.Nodup) (hi : X.N[i]? = some x) (hx : Loc X.env.scope x) (hf : X.fn x = true ∨ X.env.scope.names.lookup x = some .local := by first | exact .inl rfl | exact .inr rfl | assumption) : PG X (.Name x pos) (gOf X.K [i] (mgName i)) :=
  pg_imp (pg_name hN hi hx hf) fun v σ H Q ⟨G, g, δ, c, re, r, e', h, po⟩ => by
    cases h
    exact po _ (re.set r) ⟨by simp, fun j hj => by rw [List.getElem?_set_ne (fun z => hj (by simp [z]))]⟩
def mgNil : MG (List Cl)
  | [], e => some e
  | _ :: _, _ => none
def mgCons (g : MG Cl) (gs : MG (List Cl)) : MG (List Cl)
  | c :: cs, e => (g c e).bind (gs cs)
  | [], _ => none
theorem jgs_nil : PGs X [] (gOfs X.K [] mgNil) := pgs_imp pgs_nil fun vs σ H Q ⟨G, g, δ, cs, re, r, e', h, po⟩ => by
  cases r with
  | nil =>
    cases h
    exact ⟨rfl, po σ re Off.refl⟩
  | cons _ _ => cases h
theorem jgs_cons {t : Expr} {ts : List Expr} {gv gw : List Nat} {mg : MG Cl} {mgs : MG (List Cl)} (h1 : PG X t (gOf X.K gv mg)) (h2 : PGs X ts (gOfs X.K gw mgs)) (hs : (assignEach (t :: ts) X.env).map (·.2) = assign t X.env :: (assignEach ts X.env).map (·.2) := by rfl) : PGs X (t :: ts) (gOfs X.K (gv ++ gw) (mgCons mg mgs)) :=
  pgs_imp (pgs_cons h1 h2 hs) fun vs σ H Q ⟨G, g, δ, cs, re, r, e', h, po⟩ => by
    cases r with
    | nil => cases h
    | cons r1 rs =>
      obtain ⟨e1, h1, h2⟩ := Option.bind_eq_some_iff.mp h
      exact ⟨_, _, rfl, G, g, δ, _, re, r1, e1, h1, fun σ' re' of => ⟨G, g, _, _, re', rs, e', h2, fun σ2 re2 of2 => po σ2 re2 (of.trans of2)⟩⟩
def mgLen (n : Nat) (gs : MG (List Cl)) : MG (List D) := fun ds e => if ds.length = n then gs (ds.map Cl.sh) e else none
def mgTup (n : Nat) (gs : MG (List Cl)) : MG Cl
  | .sh (.tuple ds), e => mgLen n gs ds e
  | .tp cs, e => if cs.length = n then gs cs e else none
  | _, _ => none
def mgLst (n : Nat) (gs : MG (List Cl)) : MG Cl
  | .sh (.list ds), e => mgLen n gs ds e
  | _, _ => none
theorem mgLen_some {n : Nat} {gs : MG (List Cl)} {ds : List D} {e e' : List Cl} (h : mgLen n gs ds e = some e') : ds.length = n ∧ gs (ds.map Cl.sh) e = some e' := by
  unfold mgLen at h
  by_cases hl : ds.length = n
  · rw [if_pos hl] at h; exact ⟨hl, h⟩
  · rw [if_neg hl] at h; cases h
theorem jg_tup {ts : List Expr} {k n : Nat} {gv : List Nat} {mgs : MG (List Cl)} (hc : X.calm = true) (h : PGs X ts (gOfs X.K gv mgs)) (hn : (assignEach ts X.env).length = n := by rfl) (hst : (assignEach ts X.env).findIdx? (·.1) = none := by rfl) : PG X (.Tuple ts k pos) (gOf X.K gv (mgTup n mgs)) :=
  pg_imp (pg_tup (n := n) hc h hn hst) fun v σ H Q ⟨G, g, δ, c, re, r, e', h, po⟩ => by
    cases r with
    | lo _ => cases h
    | sh r =>
      cases r with
      | tup h1 t =>
        obtain ⟨hl, h2⟩ := mgLen_some h
        exact ⟨_, _, rfl, sqT_ex re.ex h1, by rw [t.length]; exact hl, G, g, δ, _, re, rps_cr t, e', h2, po⟩
      | _ => cases h
    | @tp a vs cs h1 t =>
      have h : (if cs.length = n then mgs cs δ.e else none) = some e' := h
      by_cases hl : cs.length = n
      · rw [if_pos hl] at h
        exact ⟨_, _, rfl, sqT_ex re.ex h1, by rw [(CRt.a t).length]; exact hl, G, g, δ, _, re, CRt.a t, e', h, po⟩
      · rw [if_neg hl] at h; cases h
theorem jg_lst {ts : List Expr} {k n : Nat} {gv : List Nat} {mgs : MG (List Cl)} (hc : X.calm = true) (h : PGs X ts (gOfs X.K gv mgs)) (hn : (assignEach ts X.env).length = n := by rfl) (hst : (assignEach ts X.env).findIdx? (·.1) = none := by rfl) : PG X (.Tuple ts k pos) (gOf X.K gv (mgLst n mgs)) :=
  pg_imp (pg_unl (n := n) hc h hn hst) fun v σ H Q ⟨G, g, δ, c, re, r, e', h, po⟩ => by
    cases r with
    | lo _ => cases h
    | sh r =>
      cases r with
      | lst h1 t =>
        obtain ⟨hl, h2⟩ := mgLen_some h
        exact ⟨_, _, rfl, sqL_ex re.ex h1, by rw [t.length]; exact hl, G, g, δ, _, re, rps_cr t, e', h2, po⟩
      | _ => cases h
    | tp h1 t => cases h
/-- targets = e -/
def mAsg (mg : MG Cl) (m : M Cl) : M Fl := mBind m fun c δ => match mg c δ.e with
  | some e' => .ok .nx ⟨e', δ.s⟩
  | none => .bad
theorem js_asg {tg : Expr} {gv : List Nat} {mg : MG Cl} (h : PE X e (tOfC X.K E mc)) (hg : PG X tg (gOf X.K gv mg)) (hs : swapsWithSole [tg] e pos.line X.env = pure false := by rfl) (hw : swappedStores [tg] e X.env = pure none := by rfl)
    (h1 : (assignEach [tg] X.env).map (·.2) = [assign tg X.env] := by rfl) : PS X (.Assign [tg] e pos) (tOfS X.K E (mAsg mg mc)) :=
  pst_imp (ps_asg h hg hs hw h1) fun B σ H ⟨G, g, δ, re, po⟩ => tOfC.stepS re po fun v c g1 H1 δ1 e1 re1 r1 po1 => by
    split at po1
    · rename_i e' he
      exact ⟨G, g1, δ1, c, re1, r1, e', he, fun σ' re' _ => po1 σ' g1 H1 (Le.refl _) re'⟩
    · exact po1.elim
end
def ItOk (K : Frag) (Hs : Hp) (J : It) (ds : List D) : Prop := ∀ Hs1 H1, Ex Hs Hs1 → Ex Hs1 H1 → ∀ i : Nat,
  (∀ d, ds[i]? = some d → J.go i H1 ∧ ∀ x H2, J.yld i H1 x H2 → ∃ Hs2, Gs Hs1 H1 Hs2 H2 ∧ Rp K Hs2 x d) ∧ (ds[i]? = none → J.stop i H1)
theorem ItOk.of {K : Frag} {Hs : Hp} {J : It} {ds : List D} (h : Dn.ItOk K Hs J ds) : ItOk K Hs J ds := fun Hs1 H1 e1 e2 i => ⟨fun d hd => ⟨((h Hs1 H1 e1 e2 i).1 d hd).1, fun x H2 y => by
  obtain ⟨Hs2, g, r⟩ := ((h Hs1 H1 e1 e2 i).1 d hd).2 x H2 y
  exact ⟨Hs2, .of g, r⟩⟩, (h Hs1 H1 e1 e2 i).2⟩
def tOfI (K : Frag) (E : XQ) (m : M (List D)) : TI := fun σ H R => Cf K E m σ H fun _ ds g' H' _ => ∀ J, ItOk K g'.h J ds → R J H'
section
variable {X : Cx} {E : XQ} {tg e : Expr} {pos : Pos} {m : M D}
def mIter (m : M D) : M (List D) := mBind m fun d => mOpt (dItems d)
theorem ji_any (h : PE X e (tOf X.K E m)) : PI X tg e (tOfI X.K E (mIter m)) :=
  pi_imp (pi_anyR h) fun σ H R ⟨G, g, δ, re, po⟩ => tOf.step re po fun v d g1 H1 δ1 e1 re1 r1 po1 => by
    obtain ⟨ds, hd, po2⟩ := Post.opt po1
    cases r1 with
    | lst h t =>
      obtain rfl := Option.some.inj hd
      exact .inl ⟨_, rfl, ⟨_, sqL_ex re1.ex h⟩, Post.of po2 re1 _ (.of (it_list h t))⟩
    | tup h t =>
      obtain rfl := Option.some.inj hd
      exact .inr (.inl ⟨_, rfl, ⟨_, sqT_ex re1.ex h⟩, Post.of po2 re1 _ (.of (it_tup h t))⟩)
    | str z =>
      obtain rfl := Option.some.inj hd
      exact .inr (.inr ⟨z, rfl, Post.of po2 re1 _ (.of it_str)⟩)
    | _ => simp [dItems] at hd
def mRng1 (m : M D) : M (List D) := mBind m fun d => mOpt (bRng1 d)
def mRng2 (ma mb : M D) : M (List D) := mBind ma fun d => mBind mb fun e => mOpt (bRng2 d e)
theorem ji_range1 {a : Expr} {p : Pos} {ma : M D} (hg : Gl X "range") (hm : X.mg "range" = none) (ha : PE X a (tOf X.K E ma)) (hs : starEach [a] X.env = [(false, eval a X.env)] := by rfl) : PI X tg (.Call (.Name "range" p) [a] [] pos) (tOfI X.K E (mRng1 ma)) :=
  pi_imp (pi_range1 hg hm (pa_cons ha pa_nil hs) hs) fun σ H R ⟨G, g, δ, re, po⟩ => tOf.step re po fun v d g1 H1 δ1 e1 re1 r1 po1 => by
    obtain ⟨ds, hd, po2⟩ := Post.opt po1
    cases r1 with
    | int j =>
      simp only [bRng1, Option.ite_none_right_eq_some, Option.some.injEq] at hd
      obtain ⟨hl, hd⟩ := hd
      subst hd
      have hl' := of_decide_eq_true hl
      exact ⟨j, rfl, hl'.1, hl'.2, Post.of po2 re1 _ (.of it_rng)⟩
    | _ => simp [bRng1] at hd
def forL (mg : MG Cl) (mb : M Fl) : List D → M Fl
  | [] => mNx
  | d :: ds => fun δ => match mg (.sh d) δ.e with
    | some e' => match mb ⟨e', δ.s⟩ with
      | .ok .nx δ2 => forL mg mb ds δ2
      | .ok .ct δ2 => forL mg mb ds δ2
      | .ok .bk δ2 => .ok .nx δ2
      | .ok (.rt s) δ2 => .ok (.rt s) δ2
      | .exc x δ2 => .exc x δ2
      | .bad => .bad
    | none => .bad
def mFor (mi : M (List D)) (mg : MG Cl) (mb : M Fl) : M Fl := mBind mi (forL mg mb)
theorem js_for {iter : Expr} {body : List Stmt} {mi : M (List D)} {gv : List Nat} {mg : MG Cl} {mb : M Fl} (hpa : PassesOwn (model X.prog X.w) X.A X.env X.xe) (hc : X.calm = true) (hi : PI X tg iter (tOfI X.K E mi)) (hg : PG X tg (gOf X.K gv mg)) (hb : PSs X body (tOfS X.K E mb))
    (hs : ∀ x, foldedSetIterable iter X.env x = pure x := by intro _; rfl) : PS X (.For tg iter body [] pos) (tOfS X.K E (mFor mi mg mb)) :=
  pst_imp (ps_for hpa hc hi hg hb hs) fun B σ H ⟨G, g, δ, re, po⟩ => Cf.stepS re po fun ds g1 H1 δ1 e1 re1 po1 J hJ => by
    refine ⟨fun i m σ' H' => m = ds.length - i ∧ i ≤ ds.length ∧ ∃ g2 δ2, Le g1 g2 ∧ RE X.K G g2 H' σ' δ2 ∧ PostF X.K E G g2 (forL mg mb (ds.drop i) δ2) B, ⟨ds.length, rfl, Nat.zero_le _, g1, δ1, Le.refl _, re1, po1⟩, ?_⟩
    rintro i m σ' H' ⟨hm, hi, g2, δ2, e2, re2, po2⟩
    obtain ⟨j1, j2⟩ := hJ g2.h H' e2.h re2.ex i
    by_cases hlt : i < ds.length
    · have hd : ds[i]? = some ds[i] := List.getElem?_eq_getElem hlt
      obtain ⟨k1, k2⟩ := j1 _ hd
      refine .inr ⟨k1, fun σ3 H3 => ∃ g3 δ3, Le g1 g3 ∧ RE X.K G g3 H3 σ3 δ3 ∧ PostF X.K E G g3 (forL mg mb (ds.drop (i + 1)) δ3) B, fun σ3 H3 ⟨g3, δ3, e3, re3, po3⟩ => ⟨ds.length - (i + 1), by omega, rfl, hlt, g3, δ3, e3, re3, po3⟩, fun x H3 y => ?_⟩
      obtain ⟨Hs3, gr, rx⟩ := k2 x H3 y
      have w := Grw.ofS gr
      have re3 := re2.grow w
      have po3 := PostS.ex po2 w.le
      rw [List.drop_eq_getElem_cons hlt] at po3
      unfold forL at po3
      cases q : mg (.sh ds[i]) δ2.e with
      | some e' =>
        rw [q] at po3
        refine ⟨G, _, δ2, _, re3, .sh rx, e', q, fun σ4 re4 _ => ⟨G, _, _, re4, ?_⟩⟩
        dsimp only at po3
        have ea := e2.trans w.le
        cases z : mb ⟨e', δ2.s⟩ with
        | ok fl δ5 =>
          rw [z] at po3
          cases fl with
          | nx => exact fun σ5 g5 H5 e5 re5 => ⟨g5, δ5, ea.trans e5, re5, PostS.ex po3 e5⟩
          | ct => exact fun σ5 g5 H5 e5 re5 => ⟨g5, δ5, ea.trans e5, re5, PostS.ex po3 e5⟩
          | bk => exact fun σ5 g5 H5 e5 re5 => po3 σ5 g5 H5 e5 re5
          | rt s => exact fun σ5 g5 H5 e5 re5 => po3 σ5 g5 H5 e5 re5
        | exc x δ5 =>
          rw [z] at po3
          exact fun σ5 g5 H5 e5 re5 => po3 σ5 g5 H5 e5 re5
        | bad => rw [z] at po3; exact po3
      | none => rw [q] at po3; exact po3.elim
    · have e : i = ds.length := by omega
      subst e
      rw [List.drop_length] at po2
      exact .inl ⟨j2 (List.getElem?_eq_none_iff.mpr (Nat.le_refl _)), PostS.of po2 re2⟩
end
def wipeE (e : List Cl) : List Nat → List Cl
  | [] => e
  | v :: vs => (wipeE e vs).set v .no
def backE (e1 e2 : List Cl) : List Nat → List Cl
  | [] => e2
  | v :: vs => (backE e1 e2 vs).set v (e1.getD v .no)
theorem wipeE_length (δ : List Cl) : ∀ vs, (wipeE δ vs).length = δ.length
  | [] => rfl
  | v :: vs => by unfold wipeE; rw [List.length_set, wipeE_length δ vs]
theorem backE_length (δ1 δ2 : List Cl) : ∀ vs, (backE δ1 δ2 vs).length = δ2.length
  | [] => rfl
  | v :: vs => by unfold backE; rw [List.length_set, backE_length δ1 δ2 vs]
theorem wipeE_in {δ : List Cl} {i : Nat} {s : Cl} : ∀ {vs : List Nat}, i ∈ vs → (wipeE δ vs)[i]? = some s → s = .no
  | v :: vs, h, q => by
    unfold wipeE at q
    rcases setGet q with ⟨_, z⟩ | ⟨hj, z⟩
    · exact z
    · rcases List.mem_cons.mp h with e | h
      · exact absurd e hj
      · exact wipeE_in h z
theorem wipeE_out {δ : List Cl} {i : Nat} : ∀ {vs : List Nat}, i ∉ vs → (wipeE δ vs)[i]? = δ[i]?
  | [], _ => rfl
  | v :: vs, h => by
    unfold wipeE
    have hne : v ≠ i := fun z => h (by simp [z])
    rw [List.getElem?_set_ne hne]
    exact wipeE_out fun z => h (List.mem_cons_of_mem _ z)
theorem backE_in {δ1 δ2 : List Cl} {i : Nat} {s : Cl} : ∀ {vs : List Nat}, i ∈ vs → (backE δ1 δ2 vs)[i]? = some s → s = δ1.getD i .no
  | v :: vs, h, q => by
    unfold backE at q
    rcases setGet q with ⟨hv, z⟩ | ⟨hj, z⟩
    · rw [hv]; exact z
    · rcases List.mem_cons.mp h with e | h
      · exact absurd e hj
      · exact backE_in h z
theorem backE_out {δ1 δ2 : List Cl} {i : Nat} : ∀ {vs : List Nat}, i ∉ vs → (backE δ1 δ2 vs)[i]? = δ2[i]?
  | [], _ => rfl
  | v :: vs, h => by
    unfold backE
    have hne : v ≠ i := fun z => h (by simp [z])
    rw [List.getElem?_set_ne hne]
    exact backE_out fun z => h (List.mem_cons_of_mem _ z)
section
variable {K : Frag} {G : Hp} {g g' : Gh} {H H' : Hp} {σ : L2.St} {δ δ' : Sx} {vs : List Nat}
theorem RE.wipe (re : RE K G g H σ δ) : RE K G g H (L2.wipe σ vs) ⟨wipeE δ.e vs, δ.s⟩ := by
  have r1 : RE K G g H σ ⟨wipeE δ.e vs, δ.s⟩ := re.less (wipeE_length δ.e vs) (fun i s q => by
    by_cases hi : i ∈ vs
    · exact .inl (wipeE_in hi q)
    · rw [wipeE_out hi] at q; exact .inr q)
  refine r1.sig (L2.wipe_length σ vs) fun i s q hn => ?_
  by_cases hi : i ∈ vs
  · exact absurd (wipeE_in hi q) hn
  · exact L2.wipe_out hi
/-- behind a block: its own names are as they were ahead of it -/
theorem RE.back (re : RE K G g H σ δ) (re2 : RE K G g' H' (L2.wipe σ vs) δ') (e : Le g g') : RE K G g' H' σ ⟨backE δ.e δ'.e vs, δ'.s⟩ :=
  re2.slots (by rw [backE_length, ← re2.len, L2.wipe_length]) fun i c q hc => by
    by_cases hi : i ∈ vs
    · have z := backE_in hi q
      have hg : δ.e[i]? = some c := by
        rw [List.getD_eq_getElem?_getD] at z
        cases w : δ.e[i]? with
        | none => rw [w] at z; exact absurd z hc
        | some s => rw [w] at z; exact congrArg some z.symm
      obtain ⟨v, h1, h2⟩ := re.sl i c hg hc
      exact ⟨v, h1, h2.le e⟩
    · rw [backE_out hi] at q
      obtain ⟨v, h1, h2⟩ := re2.sl i c q hc
      rw [L2.wipe_out hi] at h1
      exact ⟨v, h1, h2⟩
/-- a list in the making is lent out to nobody -/
theorem RE.hide {C : Addr} {xs : List Cl} {acc : List V} (re : RE K G g H σ δ) (f : FrO K G g H C xs) (ha : H C = some (.lst acc)) : RE K (upd G C (.lst acc)) g H σ δ where
  ex := re.ex
  fg := fun a o q => by
    by_cases e : a = C
    · subst e
      rw [upd_same] at q
      cases q
      exact ⟨ha, f.hs, f.nr⟩
    · rw [upd_ne e] at q
      exact re.fg a o q
  len := re.len
  rl := re.rl
  sl := re.sl
  ob := re.ob
  nd := re.nd
  al := re.al
  nt := fun a ys q => by
    have e : a ≠ C := fun z => by subst z; rw [ha] at q; cases q
    rw [upd_ne e]
    exact re.nt a ys q
  gx := fun a fs q => by
    by_cases e : a = C
    · subst e; rw [upd_same] at q; cases q
    · rw [upd_ne e] at q; exact re.gx a fs q
  fz := re.fz
theorem RE.shown {C : Addr} {o u : HO} (re : RE K (upd G C o) g H σ δ) (hg : G C = none) : RE K G g (upd H C u) σ δ where
  ex := fun a o' q => by
    have h := (re.fg C o upd_same).2.1
    have e : a ≠ C := fun z => by rw [z, h] at q; cases q
    rw [upd_ne e]
    exact re.ex a o' q
  fg := fun a o' q => by
    have e : a ≠ C := fun z => by rw [z, hg] at q; cases q
    rw [upd_ne e]
    exact re.fg a o' (by rw [upd_ne e]; exact q)
  len := re.len
  rl := re.rl
  sl := re.sl
  ob := fun l o' q w => by
    obtain ⟨a, u', h1, h2, h3, h4⟩ := re.ob l o' q w
    have e : a ≠ C := fun z => (re.fg C o upd_same).2.2 (z ▸ List.mem_of_getElem? h1)
    exact ⟨a, u', h1, by rw [upd_ne e]; exact h2, h3, h4⟩
  nd := re.nd
  al := fun a ha => by
    by_cases e : a = C
    · subst e; rw [upd_same]; simp
    · rw [upd_ne e]; exact re.al a ha
  nt := fun a ys q => by
    by_cases e : a = C
    · subst e; exact ⟨(re.fg a o upd_same).2.2, hg⟩
    · rw [upd_ne e] at q
      have := re.nt a ys q
      rw [upd_ne e] at this
      exact this
  gx := fun a fs q => by
    by_cases e : a = C
    · subst e; rw [hg] at q; cases q
    · exact re.gx a fs (by rw [upd_ne e]; exact q)
  fz := re.fz
end
def mWipe (vs : List Nat) : M Unit := fun δ => .ok () ⟨wipeE δ.e vs, δ.s⟩
def compL (vs : List Nat) (mg : MG Cl) (mt : M Bool) (me : M D) : List D → M (List D)
  | [] => mPure []
  | d :: ds => fun δ => match mg (.sh d) δ.e with
    | some e' => mBind mt (fun b => if b then mBind me (fun y => mBind (mWipe vs) fun _ => mBind (compL vs mg mt me ds) fun ys => mPure (y :: ys)) else mBind (mWipe vs) fun _ => compL vs mg mt me ds) ⟨e', δ.s⟩
    | none => .bad
def compE (vs : List Nat) (mg : MG Cl) (mt : M Bool) (me : M D) (ds : List D) : M (List Cl) := fun δ =>
  if ds.length ≤ sizeLine then
    match compL vs mg mt me ds ⟨wipeE δ.e vs, δ.s⟩ with
    | .ok ys δ2 => .ok (ys.map Cl.sh) ⟨backE δ.e δ2.e vs, δ2.s⟩
    | _ => .bad
  else .bad
def mComp (mi : M (List D)) (vs : List Nat) (mg : MG Cl) (mt : M Bool) (me : M D) : M (List Cl) := mBind mi (compE vs mg mt me)
def mYes : M Bool := mPure true
end Ds
namespace Ds
open PySem PySem.Spec PyProof.Rows L2 Dn
section
variable {X : Cx} {E : XQ} {tg e elt iter : Expr} {ifs : List Expr} {pos : Pos} {vs gv : List Nat} {mi : M (List D)} {mg : MG Cl} {mt : M Bool} {me : M D}
/-- what a comprehension's block makes, read off its parts -/
theorem lc_read (hgv : ∀ i ∈ gv, i ∈ vs) {σ : L2.St} {H : Hp} {Q : VK} (h : tOfO X.K E (mComp mi vs mg mt me) σ H Q) :
    tLc (tOfI X.K E mi) (gOf X.K gv mg) (tOfT X.K noX mt) (tOf X.K noX me) vs σ H Q := by
  obtain ⟨G, g, δ, re, po⟩ := h
  refine Cf.step re po fun ds g1 H1 δ1 e1 re1 po1 J hJ C hC => ?_
  unfold compE at po1
  split at po1
  · rename_i hlen
    cases hcl : compL vs mg mt me ds ⟨wipeE δ1.e vs, δ1.s⟩ with
    | ok ys δf =>
      rw [hcl] at po1
      have en : Ex H1 (upd H1 C (.lst [])) := ex_new hC
      have gC : G C = none := by
        cases q : G C with
        | none => rfl
        | some u => have := (re1.fg C u q).1; rw [hC] at this; cases this
      have re2 := (re1.newH en).wipe (vs := vs)
      have f0 : FrO X.K G g1 (upd H1 C (.lst [])) C [] := FrO.new re1 hC .nil
      refine ⟨fun i m H' => m = ds.length - i ∧ i ≤ ds.length ∧ ∃ g2 δ2 done ys2, Le g1 g2 ∧ RE X.K G g2 H' (L2.wipe σ vs) δ2 ∧ FrO X.K G g2 H' C (done.map Cl.sh) ∧ done.length ≤ i ∧ compL vs mg mt me (ds.drop i) δ2 = .ok ys2 δf ∧ done ++ ys2 = ys,
        ⟨ds.length, rfl, Nat.zero_le _, g1, _, [], ys, Le.refl _, re2, f0, Nat.le_refl _, hcl, rfl⟩, ?_⟩
      rintro i m H' ⟨hm, hi, g2, δ2, done, ys2, e2, re3, f3, hdl, hc3, hys⟩
      obtain ⟨j1, j2⟩ := hJ g2.h H' e2.h re3.ex i
      by_cases hlt : i < ds.length
      · have hd : ds[i]? = some ds[i] := List.getElem?_eq_getElem hlt
        obtain ⟨k1, k2⟩ := j1 _ hd
        refine .inr ⟨k1, fun H3 => ∃ g3 δ3 done ys2, Le g1 g3 ∧ RE X.K G g3 H3 (L2.wipe σ vs) δ3 ∧ FrO X.K G g3 H3 C (done.map Cl.sh) ∧ done.length ≤ i + 1 ∧ compL vs mg mt me (ds.drop (i + 1)) δ3 = .ok ys2 δf ∧ done ++ ys2 = ys,
          fun H3 hN => ⟨ds.length - (i + 1), by omega, rfl, hlt, hN⟩, fun x H3 y => ?_⟩
        obtain ⟨Hs3, gr, rx⟩ := k2 x H3 y
        have w := Grw.ofS gr
        obtain ⟨acc, ha, hr⟩ := f3.at_
        have re4 := re3.grow w
        have z3 : Hs3 C = none := by
          rcases gr.f C (by rw [ha]; simp) with z | ⟨ys, z⟩
          · rw [z]; exact f3.hs
          · rw [ha] at z; cases z
        have f4 : FrO X.K G ⟨g2.r, Hs3⟩ H3 C (done.map Cl.sh) := ⟨⟨acc, gr.h C _ ha, CRs.le w.le hr⟩, z3, f3.gg, f3.nr⟩
        have re5 := re4.hide f4 (gr.h C _ ha)
        rw [List.drop_eq_getElem_cons hlt] at hc3
        unfold compL at hc3
        cases q : mg (.sh ds[i]) δ2.e with
        | some e' =>
          rw [q] at hc3
          refine ⟨upd G C (.lst acc), ⟨g2.r, Hs3⟩, δ2, _, re5, .sh rx, e', q, fun σ4 re6 of4 => ⟨wipe_off of4 hgv, ?_⟩⟩
          dsimp only at hc3
          -- a turn's end: the names wiped, the list as it is then
          have turn : ∀ {g5 : Gh} {H5 : Hp} {δ5 : Sx} {u : HO}, RE X.K (upd G C (.lst acc)) g5 H5 σ4 δ5 → RE X.K G g5 (upd H5 C u) (L2.wipe σ vs) ⟨wipeE δ5.e vs, δ5.s⟩ ∧ g5.h C = none ∧ H5 C = some (.lst acc) ∧ C ∉ g5.r := fun {g5 H5 δ5 u} re7 => by
            have rw7 := re7.wipe (vs := vs)
            rw [wipe_off of4 hgv] at rw7
            have hf := re7.fg C (.lst acc) upd_same
            exact ⟨rw7.shown gC, hf.2.1, hf.1, hf.2.2⟩
          have ew := e2.trans w.le
          refine ⟨_, _, ⟨e', δ2.s⟩, re6, ?_⟩
          cases zt : mt ⟨e', δ2.s⟩ with
          | ok b δ5 =>
            rw [show mBind mt _ ⟨e', δ2.s⟩ = _ from by unfold mBind; rw [zt]] at hc3
            dsimp only at hc3
            refine fun g5 H5 e5 re7 => ?_
            cases b with
            | true =>
              rw [if_pos rfl] at hc3 ⊢
              refine ⟨_, g5, δ5, re7, ?_⟩
              cases ze : me δ5 with
              | ok yv δ6 =>
                rw [ze] at hc3
                refine fun g6 H6 e6 re8 v rv => ?_
                obtain ⟨t1, t3, t4, t5⟩ := turn (u := .lst (acc ++ [v])) re8
                have hal : acc.length = done.length := by rw [hr.length, List.length_map]
                refine ⟨acc, t4, by omega, ?_⟩
                have hc4 : mBind (compL vs mg mt me (ds.drop (i + 1))) (fun ys => mPure (yv :: ys)) ⟨wipeE δ6.e vs, δ6.s⟩ = .ok ys2 δf := hc3
                cases zr : compL vs mg mt me (ds.drop (i + 1)) ⟨wipeE δ6.e vs, δ6.s⟩ with
                | ok ys3 δ7 =>
                  unfold mBind at hc4
                  rw [zr] at hc4
                  have hc5 : Res.ok (yv :: ys3) δ7 = Res.ok ys2 δf := hc4
                  injection hc5 with k1 k2
                  subst k1; subst k2
                  have e16 : Le g1 g6 := (ew.trans e5).trans e6
                  refine ⟨g6, _, done ++ [yv], ys3, e16, t1, ⟨⟨acc ++ [v], upd_same, ?_⟩, t3, gC, t5⟩, by simp; exact hdl, zr, by rw [← hys]; simp⟩
                  rw [List.map_append]
                  exact (CRs.le ((w.le.trans e5).trans e6) hr).snoc (.sh rv)
                | exc x δ7 => unfold mBind at hc4; rw [zr] at hc4; cases hc4
                | bad => unfold mBind at hc4; rw [zr] at hc4; cases hc4
              | exc x δ6 => rw [ze] at hc3; cases hc3
              | bad => rw [ze] at hc3; cases hc3
            | false =>
              rw [if_neg Bool.false_ne_true] at hc3 ⊢
              obtain ⟨t1, t3, t4, t5⟩ := turn (u := .lst acc) re7
              have hu : upd H5 C (.lst acc) = H5 := by
                funext b
                by_cases hb : b = C
                · subst hb; rw [upd_same, t4]
                · rw [upd_ne hb]
              rw [hu] at t1
              have hc4 : compL vs mg mt me (ds.drop (i + 1)) ⟨wipeE δ5.e vs, δ5.s⟩ = .ok ys2 δf := hc3
              exact ⟨g5, _, done, ys2, ew.trans e5, t1, ⟨⟨acc, t4, CRs.le (w.le.trans e5) hr⟩, t3, gC, t5⟩, by omega, hc4, hys⟩
          | exc x δ5 => rw [show mBind mt _ ⟨e', δ2.s⟩ = _ from by unfold mBind; rw [zt]] at hc3; cases hc3
          | bad => rw [show mBind mt _ ⟨e', δ2.s⟩ = _ from by unfold mBind; rw [zt]] at hc3; cases hc3
        | none => rw [q] at hc3; cases hc3
      · have ei : i = ds.length := by omega
        subst ei
        rw [List.drop_length] at hc3
        have hc4 : Res.ok ([] : List D) δ2 = Res.ok ys2 δf := hc3
        injection hc4 with k1 k2
        subst k1; subst k2
        rw [List.append_nil] at hys
        subst hys
        refine .inl ⟨j2 (List.getElem?_eq_none_iff.mpr (Nat.le_refl _)), ?_⟩
        exact po1 g2 H' e2 (re1.back re3 e2) C f3
    | exc x δf => rw [hcl] at po1; exact po1.elim
    | bad => rw [hcl] at po1; exact po1.elim
  · exact po1.elim
theorem jts_nil : PTs X [] (tOfT X.K E mYes) := ⟨fun pins s σ H Q I ⟨G, g, δ, re, po⟩ => pts_nil.run pins s σ H Q I (Post.of po re)⟩
theorem jo_comp {scope : Scope} {own : List (Str × Nat)} (hgv : ∀ i ∈ gv, i ∈ own.map (·.2)) (hc : X.calm = true) (hN : X.N.Nodup) (hi : PI X tg iter (tOfI X.K E mi)) (ok : BlkOk X.N X.env.scope scope own)
    (hg : ∀ (s : Shared) (H : Hp) (C : Addr) (cl : List (Str × Addr)) (fp : List Addr), PG (X.blk s H scope (compEnvC scope cl C X.env) fp) tg (gOf X.K gv mg)) (ht : ∀ (s : Shared) (H : Hp) (C : Addr) (cl : List (Str × Addr)) (fp : List Addr), PTs (X.blk s H scope (compEnvC scope cl C X.env) fp) ifs (tOfT X.K noX mt))
    (he : ∀ (s : Shared) (H : Hp) (C : Addr) (cl : List (Str × Addr)) (fp : List Addr), PE (X.blk s H scope (compEnvC scope cl C X.env) fp) elt (tOf X.K noX me)) (hs : ∀ x, foldedSetIterable iter X.env x = pure x := by intro _; rfl) :
    PE X (.ListComp elt [⟨tg, iter, ifs, 0⟩] scope pos) (tOfO X.K E (mComp mi (own.map (·.2)) mg mt me)) :=
  pe_imp (pe_lc hc hN hi ok hg ht he hs) fun σ H Q h => lc_read hgv h
/-- y = [..] on one line -/
theorem js_lc {i : Nat} {y : Str} {py : Pos} {scope : Scope} {own : List (Str × Nat)} {spos : Pos} {mc : M (List Cl) → M Cl} (hgv : ∀ i ∈ gv, i ∈ own.map (·.2)) (hc : X.calm = true) (hN : X.N.Nodup) (hy : X.N[i]? = some y) (hyl : X.env.scope.names.lookup y = some .local)
    (hmc : ∀ (m : M (List Cl)) (σ : L2.St) (H : Hp) (Q : VK), tOfC X.K E (mc m) σ H Q → tOfO X.K E m σ H Q)
    (hsw : swapsWith (.ListComp elt [⟨tg, iter, ifs, 0⟩] scope pos) (some (.Name y py)) spos.line X.env = pure true) (hi : PI X tg iter (tOfI X.K E mi)) (ok : BlkOk X.N X.env.scope scope own)
    (hg : ∀ (s : Shared) (H : Hp) (C : Addr) (cl : List (Str × Addr)) (fp : List Addr), PG (X.blk s H scope (compEnvC scope cl C X.env) fp) tg (gOf X.K gv mg)) (ht : ∀ (s : Shared) (H : Hp) (C : Addr) (cl : List (Str × Addr)) (fp : List Addr), PTs (X.blk s H scope (compEnvC scope cl C X.env) fp) ifs (tOfT X.K noX mt))
    (he : ∀ (s : Shared) (H : Hp) (C : Addr) (cl : List (Str × Addr)) (fp : List Addr), PE (X.blk s H scope (compEnvC scope cl C X.env) fp) elt (tOf X.K noX me)) (hs : ∀ x, foldedSetIterable iter X.env x = pure x := by intro _; rfl) :
    PS X (.Assign [.Name y py] (.ListComp elt [⟨tg, iter, ifs, 0⟩] scope pos) spos) (tOfS X.K E (mSet i (mc (mComp mi (own.map (·.2)) mg mt me)))) :=
  pst_imp (ps_setLc hc hN hy hyl hsw hi ok hg ht he hs) fun B σ H ⟨G, g, δ, re, po⟩ => lc_read hgv (hmc _ _ _ _ (tOfC.stepS re po fun v c g1 H1 δ1 e1 re1 r1 po1 => PostS.of po1 (re1.set r1)))
/-- .. as data, as one of the store's -/
theorem frO {m : M (List Cl)} {σ : L2.St} {H : Hp} {Q : VK} (h : tOf X.K E (mFr m) σ H Q) : tOfO X.K E m σ H Q := by
  obtain ⟨G, g, δ, re, po⟩ := h
  refine tOfO.step re po fun a xs g1 H1 δ1 e1 re1 f1 po1 => ?_
  obtain ⟨d, hd, po2⟩ := Post.opt po1
  obtain ⟨ds, h1, h2⟩ := Option.map_eq_some_iff.mp hd
  subst h2
  obtain ⟨g2, k1, _, k2, k3⟩ := re1.freeze f1 h1
  exact po2 g2 H1 k1 k2 _ k3
theorem shO {m : M D} {σ : L2.St} {H : Hp} {Q : VK} (h : tOfC X.K E (mSh m) σ H Q) : tOf X.K E m σ H Q := by
  obtain ⟨G, g, δ, re, po⟩ := h
  exact tOf.step re po fun v d g1 H1 δ1 e1 re1 r1 po1 => Post.of po1 re1 v (.sh r1)
theorem loO {m : M Nat} {σ : L2.St} {H : Hp} {Q : VK} (h : tOfC X.K E (mLo m) σ H Q) : tOfL X.K E m σ H Q := by
  obtain ⟨G, g, δ, re, po⟩ := h
  exact tOfL.step re po fun a l g1 H1 δ1 e1 re1 r1 po1 => Post.of po1 re1 _ (.lo r1)
theorem newO {m : M (List Cl)} {σ : L2.St} {H : Hp} {Q : VK} (h : tOfL X.K E (mNew m) σ H Q) : tOfO X.K E m σ H Q := by
  obtain ⟨G, g, δ, re, po⟩ := h
  refine tOfO.step re po fun a xs g1 H1 δ1 e1 re1 f1 po1 => ?_
  obtain ⟨g2, k1, k2⟩ := allS re1 f1.fro po1
  exact k1 a k2
theorem mc_fr (m : M (List Cl)) (σ : L2.St) (H : Hp) (Q : VK) (h : tOfC X.K E (mSh (mFr m)) σ H Q) : tOfO X.K E m σ H Q := frO (shO h)
theorem mc_new (m : M (List Cl)) (σ : L2.St) (H : Hp) (Q : VK) (h : tOfC X.K E (mLo (mNew m)) σ H Q) : tOfO X.K E m σ H Q := newO (loO h)
end
inductive RF where
  | ok (c : Cl) (s : List Ob)
  | exc (y : Exn) (s : List Ob)
  | bad
abbrev Fn := List Cl → List Ob → RF
mutual
def Cl.under (n : Nat) : Cl → Bool
  | .lo l => decide (l < n)
  | .tp cs => Cl.unders n cs
  | .no => true
  | .sh _ => true
def Cl.unders (n : Nat) : List Cl → Bool
  | [] => true
  | c :: cs => Cl.under n c && Cl.unders n cs
end
def Ob.below (n : Nat) : Ob → Bool
  | .gone => true
  | .lst xs => xs.all (Cl.under n)
  | .dk kvs => kvs.all fun p => p.2.under n
  | .dt kvs => kvs.all fun p => p.2.under n
  | .ft kvs => kvs.all fun p => p.2.under n
  | .fk kvs => kvs.all fun p => p.2.under n
  | .ins _ fs => fs.all fun p => p.2.under n
/-- what a def has made for itself is forgotten behind it, where nothing reaches it -/
def trim (n : Nat) (c : Cl) (s : List Ob) : List Ob := if (c.under n && (s.take n).all (Ob.below n)) = true then s.take n else s
def fnF (n N : Nat) (mb : M Fl) : Fn := fun as s => if as.length = n then match mb ⟨as ++ List.replicate (N - n) .no, s⟩ with
  | .ok (.rt c) δ' => .ok c (trim s.length c δ'.s)
  | .ok .nx δ' => .ok (.sh .none) (trim s.length (.sh .none) δ'.s)
  | .exc x δ' => .exc x δ'.s
  | _ => .bad
  else .bad
def spF (K : Frag) (n : Nat) (F : Fn) : Sp := fun vs H Q E => vs.length = n ∧ ∃ (G : Hp) (g : Gh) (as : List Cl) (s : List Ob), RE K G g H [] ⟨[], s⟩ ∧ All2 (CR K g) vs as ∧
  match F as s with
  | .ok c s' => ∀ g' H', Le g g' → RE K G g' H' [] ⟨[], s'⟩ → ∀ v, CR K g' v c → Q v H'
  | .exc x s' => False
  | .bad => False
section
variable {K : Frag} {G : Hp} {g g' : Gh} {H H' : Hp} {σ : L2.St} {δ δ' : Sx}
mutual
theorem CR.cut {n : Nat} : ∀ {v : V} {c : Cl}, CR K g v c → c.under n = true → CR K ⟨g.r.take n, g.h⟩ v c
  | _, _, .sh h, _ => .sh h
  | _, _, .lo (l := l) h, hb => .lo (by
    have hb : decide (l < n) = true := by unfold Cl.under at hb; exact hb
    have : l < n := of_decide_eq_true hb
    show (g.r.take n)[_]? = _
    rw [List.getElem?_take_of_lt this]
    exact h)
  | _, _, .tp h t, hb => .tp h (CRt.cut t (by unfold Cl.under at hb; exact hb))
theorem CRt.cut {n : Nat} : ∀ {vs : List V} {cs : List Cl}, CRt K g vs cs → Cl.unders n cs = true → CRt K ⟨g.r.take n, g.h⟩ vs cs
  | _, _, .nil, _ => .nil
  | _, _, .cons h t, hb => by
    unfold Cl.unders at hb
    rw [Bool.and_eq_true] at hb
    exact .cons (CR.cut h hb.1) (CRt.cut t hb.2)
end
theorem ObR.cut {n : Nat} {o : Ob} {u : HO} (h : ObR K g o u) (hb : o.below n = true) : ObR K ⟨g.r.take n, g.h⟩ o u := by
  have f : ∀ {κ : Type} {vs : List (κ × V)} {xs : List (κ × Cl)}, All2 (fun p q => p.1 = q.1 ∧ CR K g p.2 q.2) vs xs → (xs.all fun p => p.2.under n) = true → All2 (fun p q => p.1 = q.1 ∧ CR K ⟨g.r.take n, g.h⟩ p.2 q.2) vs xs := fun {κ vs xs} t hb =>
    t.imp_mem fun a b m r => ⟨r.1, r.2.cut (List.all_eq_true.mp hb b m)⟩
  cases h with
  | lst t => exact .lst (t.imp_mem fun a b m r => r.cut (List.all_eq_true.mp hb b m))
  | dk t => exact .dk (f t hb)
  | dt t => exact .dt (f t hb)
  | ins c t => exact .ins c (f t hb)
theorem RE.trim {c : Cl} {v : V} {n : Nat} (r : RE K G g H [] ⟨[], δ.s⟩) (hn : n ≤ δ.s.length) (hc : CR K g v c) : ∃ g', g'.h = g.h ∧ (∀ l a, l < n → g.r[l]? = some a → g'.r[l]? = some a) ∧ RE K G g' H [] ⟨[], Ds.trim n c δ.s⟩ ∧ CR K g' v c := by
  unfold Ds.trim
  split
  · rename_i hb
    rw [Bool.and_eq_true] at hb
    obtain ⟨h1, h2⟩ := hb
    refine ⟨⟨g.r.take n, g.h⟩, rfl, fun l a hl h => ?_, ?_, hc.cut h1⟩
    · show (g.r.take n)[l]? = some a
      rw [List.getElem?_take_of_lt hl]
      exact h
    · exact {
        ex := r.ex
        fg := fun a o q => by
          obtain ⟨a1, a2, a3⟩ := r.fg a o q
          exact ⟨a1, a2, fun z => a3 (List.mem_of_mem_take z)⟩
        len := rfl
        rl := by
          have : g.r.length = δ.s.length := r.rl
          simp [this]
        sl := fun i c q => by simp at q
        ob := fun l o q hl => by
          have q : (δ.s.take n)[l]? = some o := q
          have hln : l < n := by
            have := (List.getElem?_eq_some_iff.mp q).1
            simp at this
            omega
          rw [List.getElem?_take_of_lt hln] at q
          obtain ⟨a, u, b1, b2, b3, b4⟩ := r.ob l o q hl
          refine ⟨a, u, ?_, b2, b3.cut ?_, b4⟩
          · show (g.r.take n)[l]? = some a
            rw [List.getElem?_take_of_lt hln]
            exact b1
          · refine List.all_eq_true.mp h2 o ?_
            refine List.mem_of_getElem? (i := l) ?_
            rw [List.getElem?_take_of_lt hln]
            exact q
        nd := (List.take_sublist n g.r).nodup r.nd
        al := fun a ha => r.al a (List.mem_of_mem_take ha)
        nt := fun a ys q => ⟨fun z => (r.nt a ys q).1 (List.mem_of_mem_take z), (r.nt a ys q).2⟩
        gx := r.gx
        fz := fun l o1 q hz => by
          have q : (δ.s.take n)[l]? = some o1 := q
          have hln : l < n := by
            have := (List.getElem?_eq_some_iff.mp q).1
            simp at this
            omega
          have hm : Ob.below n o1 = true := List.all_eq_true.mp h2 _ (List.mem_of_getElem? q)
          rw [List.getElem?_take_of_lt hln] at q
          obtain ⟨a, o, vs, b1, b2, b3⟩ := r.fz l o1 q hz
          refine ⟨a, o, vs, ?_, b2, match o1, b3, hm with
            | _, .ft b3, hm => .ft (b3.imp_mem fun a b m z => ⟨z.1, z.2.cut (List.all_eq_true.mp hm b m)⟩)
            | _, .fk b3, hm => .fk (b3.imp_mem fun a b m z => ⟨z.1, z.2.cut (List.all_eq_true.mp hm b m)⟩)⟩
          show (g.r.take n)[l]? = some a
          rw [List.getElem?_take_of_lt hln]
          exact b1 }
  · exact ⟨g, rfl, fun l a _ h => h, r, hc⟩
theorem RE.start {vs : List V} {as : List Cl} {s : List Ob} (r : RE K G g H [] ⟨[], s⟩) (t : All2 (CR K g) vs as) (k : Nat) : RE K G g H (vs.map some ++ List.replicate k none) ⟨as ++ List.replicate k .no, s⟩ :=
  r.slots (by simp [t.length]) fun i c q hc => by
    by_cases hi : i < as.length
    · rw [List.getElem?_append_left hi] at q
      obtain ⟨v, h1, h2⟩ := t.get q
      have hiv : i < (vs.map some).length := by rw [List.length_map, t.length]; exact hi
      exact ⟨v, by rw [List.getElem?_append_left hiv, List.getElem?_map, h1]; rfl, h2⟩
    · rw [List.getElem?_append_right (by omega), List.getElem?_replicate] at q
      split at q
      · cases q; exact absurd rfl hc
      · cases q
end
theorem trim_le {n : Nat} {c : Cl} {s : List Ob} (h : n ≤ s.length) : n ≤ (trim n c s).length := by
  unfold trim
  split
  · rw [List.length_take]; omega
  · exact h
section
variable {P : Program} {w : World} {K : Frag} {mg : Str → Option Value} {base : Heap}
/-- a def keeps its promise: by its body as a run upon data -/
theorem fn_J {x qual : Str} {st : Stmt} {f : Addr} {fd : FuncData} {N pr : List Str} {k n nN : Nat} {mb : M Fl} (F : Fun K x qual st f fd) (S : FnScope N pr (defScope st)) (hn : pr.length = n) (hN : N.length = nN) (hle : n ≤ nN)
    (hbody : ∀ (cdv : Value) (A : Around) (outer : List PySem.Env) (s : Shared) (H : Hp) (E : XK), Room k (A.deeper (envOfC qual (defScope st) s.heap.objs.size f cdv)) →
      PSs (cxOf CX0 P w K mg base N qual (defScope st) f cdv A outer s H E).nox (defBody st) (tOfS K noX mb)) : FnOk P w K mg base CX0 (k + 1) f fd pr (spF K n (fnF n nN mb)) := by
  refine F.ok S (fun vs H Q E h => by rw [h.1, hn]) fun cdv A outer s H vs Q E hr h => ⟨_, hbody cdv A outer s H E hr, ?_⟩
  obtain ⟨hl, G, g, as, st0, re, t, po⟩ := h
  have hst : L2.start N vs = vs.map some ++ List.replicate (nN - n) none := by unfold L2.start; rw [hN, hl]
  refine ⟨G, g, ⟨as ++ List.replicate (nN - n) .no, st0⟩, by rw [hst]; exact re.start t _, ?_⟩
  have hal : as.length = n := by rw [← t.length, hl]
  unfold fnF at po
  rw [if_pos hal] at po
  have grl : g.r.length = st0.length := re.rl
  have fin : ∀ {c : Cl} {δ' : Sx} {σ' : L2.St} {g' : Gh} {H' : Hp} {v : V}, (∀ g' H', Le g g' → RE K G g' H' [] ⟨[], trim st0.length c δ'.s⟩ → ∀ v, CR K g' v c → Q v H') → Le g g' → RE K G g' H' σ' δ' → CR K g' v c → Q v H' := fun {c δ' σ' g' H' v} k e r hc => by
    have hn' : st0.length ≤ δ'.s.length := by
      rw [← r.rl, ← grl]
      by_cases h0 : g.r.length = 0
      · omega
      · have := (List.getElem?_eq_some_iff.mp (e.r (g.r.length - 1) _ (List.getElem?_eq_getElem (by omega)))).1
        omega
    obtain ⟨g2, a1, a2, a3, a4⟩ := RE.trim (δ := δ') (n := st0.length) r.bare hn' hc
    refine k g2 H' ⟨fun l a h => a2 l a ?_ (e.r l a h), by rw [a1]; exact e.h⟩ a3 v a4
    have := (List.getElem?_eq_some_iff.mp h).1
    omega
  cases q : mb ⟨as ++ List.replicate (nN - n) .no, st0⟩ with
  | ok fl δ' =>
    rw [q] at po
    cases fl with
    | nx => exact fun σ' g' H' e r => fin po e r (.sh .non)
    | rt c => exact fun σ' g' H' e r v rv => fin po e r rv
    | bk => exact po.elim
    | ct => exact po.elim
  | exc x δ' => rw [q] at po; exact po.elim
  | bad => rw [q] at po; exact po.elim
end
def mCall (F : Fn) (as : List (M Cl)) : M Cl := mBind (evA as) fun cs δ => match F cs δ.s with
  | .ok c s' => .ok c ⟨δ.e, s'⟩
  | .exc x s' => .bad
  | .bad => .bad
section
variable {X : Cx} {E : XQ} {E0 : XK} {F : Fn} {as : List (M Cl)} {k n : Nat} {f : Addr} {fd : FuncData} {pr : List Str} {x : Str} {e : Expr} {es : List Expr} {p pos : Pos}
theorem call_read (hn : as.length = n) {σ : L2.St} {H : Hp} {Q : VK} (h : tOfC X.K E (mCall F as) σ H Q) : tCall (spF X.K n F) [] E0 (tOfA X.K E (evA as)) σ H Q := by
  obtain ⟨G, g, δ, re, po⟩ := h
  have hlen : ∀ (as : List (M Cl)) (δ : Sx) (cs : List Cl) (δ' : Sx), evA as δ = .ok cs δ' → cs.length = as.length := fun as => by
    induction as with
    | nil => intro δ cs δ' h; cases h; rfl
    | cons m as ih =>
      intro δ cs δ' h
      unfold evA mBind at h
      cases q : m δ with
      | ok c δ1 =>
        rw [q] at h
        dsimp only at h
        cases q2 : evA as δ1 with
        | ok cs2 δ2 =>
          rw [q2] at h
          have h : Res.ok (c :: cs2) δ2 = Res.ok cs δ' := h
          injection h with h1 h2
          subst h1
          rw [List.length_cons, List.length_cons, ih _ _ _ q2]
        | exc y δ2 => rw [q2] at h; cases h
        | bad => rw [q2] at h; cases h
      | exc y δ1 => rw [q] at h; cases h
      | bad => rw [q] at h; cases h
  unfold mCall at po
  have po' := po
  unfold mBind at po'
  cases qa : evA as δ with
  | ok cs0 δ0 =>
    have hl := hlen _ _ _ _ qa
    rw [qa] at po'
    refine ⟨G, g, δ, re, ?_⟩
    rw [qa]
    intro g1 H1 e1 re1 vs r1
    have po1 := Post.ex po' e1
    rw [List.append_nil]
    dsimp only at po1
    refine ⟨by rw [r1.length, hl, hn], G, g1, cs0, δ0.s, re1.bare, r1, ?_⟩
    cases q : F cs0 δ0.s with
    | ok c s' =>
      rw [q] at po1
      exact fun g' H' e r v rv => po1 g' H' e (re1.lift e r) v rv
    | exc y s' => rw [q] at po1; exact po1.elim
    | bad => rw [q] at po1; exact po1.elim
  | exc y δ0 =>
    rw [qa] at po'
    refine ⟨G, g, δ, re, ?_⟩
    rw [qa]
    exact po'
  | bad => rw [qa] at po'; exact po'.elim
theorem jc_call (G : FnOk X.prog X.w X.K X.mg X.base CX0 k f fd pr (spF X.K n F)) (hn : as.length = n) (hr : Room k X.A) (hg : Gl X x) (hm : X.mg x = some (.ref f)) (hk : PySem.W.keepIn X.K (.ref f) = true) (hb : Binds X.K fd pr []) (ha : PA X (e :: es) (tOfA X.K E (evA as)))
    (hdb : (x == ("__debug__" : Str)) = false := by decide) (he : starEach (e :: es) X.env = (false, eval e X.env) :: starEach es X.env := by rfl) (hpl : (backTo pos (starEach es X.env)).any (·.1) = false := by rfl) : PE X (.Call (.Name x p) (e :: es) [] pos) (tOfC X.K E (mCall F as)) :=
  pe_imp (pe_call G hr hg hm hk hb .nil pass0 ha hdb he hpl) fun _ _ _ h => call_read hn h
/-- a def that calls itself: none of its turns is left -/
theorem fn_bad {P : Program} {w : World} {K : Frag} {mg : Str → Option Value} {base : Heap} {k n : Nat} {f : Addr} {fd : FuncData} {pr : List Str} (hn : pr.length = n) : FnOk P w K mg base CX0 k f fd pr (spF K n fun _ _ => .bad) :=
  ⟨fun vs H Q E h => by rw [h.1, hn], fun A outer s H args us vs Q E _ _ _ _ h => by
    obtain ⟨_, _, _, _, _, _, _, h⟩ := h
    exact h.elim⟩
end
end Ds
namespace Ds
open PySem PySem.Spec PyProof.Rows L2 Dn
section
variable {κ : Type} [DecidableEq κ]
def valC (kvs : List (κ × Cl)) (k : κ) : Option Cl := (kvs.find? fun kv => decide (kv.1 = k)).map (·.2)
def putC (kvs : List (κ × Cl)) (k : κ) (c : Cl) : List (κ × Cl) := if (kvs.any fun kv => decide (kv.1 = k)) = true then kvs.map (fun kv => if kv.1 = k then (kv.1, c) else kv) else kvs ++ [(k, c)]
def dropC (kvs : List (κ × Cl)) (k : κ) : List (κ × Cl) := kvs.filter fun kv => decide (kv.1 ≠ k)
def mergeC (kvs more : List (κ × Cl)) : List (κ × Cl) := more.foldl (fun acc kv => putC acc kv.1 kv.2) kvs
abbrev KR (K : Frag) (g : Gh) : List (κ × V) → List (κ × Cl) → Prop := All2 fun p q => p.1 = q.1 ∧ CR K g p.2 q.2
variable {K : Frag} {g : Gh}
theorem KR.val {vs : List (κ × V)} {cs : List (κ × Cl)} (r : KR K g vs cs) (k : κ) : (valC cs k = none ∧ valV vs k = none) ∨ ∃ v c, valC cs k = some c ∧ valV vs k = some v ∧ CR K g v c := by
  induction r with
  | nil => exact .inl ⟨rfl, rfl⟩
  | @cons p q ps qs h t ih =>
    by_cases e : q.1 = k
    · refine .inr ⟨p.2, q.2, ?_, ?_, h.2⟩
      · simp [valC, List.find?_cons, e]
      · exact valV_pos (h.1.trans e)
    · have e1 : valC (q :: qs) k = valC qs k := by simp [valC, List.find?_cons, e]
      have e2 : valV (p :: ps) k = valV ps k := valV_neg (by rw [h.1]; exact e)
      rw [e1, e2]
      exact ih
theorem KR.some {vs : List (κ × V)} {cs : List (κ × Cl)} (r : KR K g vs cs) {k : κ} {c : Cl} (h : valC cs k = some c) : ∃ v, valV vs k = some v ∧ CR K g v c := by
  rcases r.val k with ⟨a, _⟩ | ⟨v, c', a, b, d⟩
  · rw [a] at h; cases h
  · rw [a] at h; cases h; exact ⟨v, b, d⟩
theorem KR.isSome {vs : List (κ × V)} {cs : List (κ × Cl)} (r : KR K g vs cs) (k : κ) : (valV vs k).isSome = (valC cs k).isSome := by
  rcases r.val k with ⟨a, b⟩ | ⟨v, c', a, b, d⟩ <;> rw [a, b] <;> rfl
theorem KR.any {vs : List (κ × V)} {cs : List (κ × Cl)} (r : KR K g vs cs) (k : κ) : (vs.any fun kv => decide (kv.1 = k)) = cs.any fun kv => decide (kv.1 = k) := by
  induction r with
  | nil => rfl
  | @cons p q ps qs h t ih => rw [List.any_cons, List.any_cons, ih, h.1]
theorem KR.put {vs : List (κ × V)} {cs : List (κ × Cl)} (r : KR K g vs cs) (k : κ) {v : V} {c : Cl} (h : CR K g v c) : KR K g (putK vs k v) (putC cs k c) := by
  unfold putK putC
  rw [r.any k]
  have z : KR K g (vs.map fun kv => if kv.1 = k then (kv.1, v) else kv) (cs.map fun kv => if kv.1 = k then (kv.1, c) else kv) := by
    induction r with
    | nil => exact .nil
    | @cons p q ps qs h' t ih =>
      rw [List.map_cons, List.map_cons]
      refine .cons ?_ ih
      by_cases e : q.1 = k
      · rw [if_pos e, if_pos (h'.1.trans e)]; exact ⟨h'.1, h⟩
      · rw [if_neg e, if_neg (by rw [h'.1]; exact e)]; exact h'
  split
  · exact z
  · exact All2.snoc r ⟨rfl, h⟩
theorem KR.drop {vs : List (κ × V)} {cs : List (κ × Cl)} (r : KR K g vs cs) (k : κ) : KR K g (dropK vs k) (dropC cs k) := by
  unfold dropK dropC
  induction r with
  | nil => exact .nil
  | @cons p q ps qs h t ih =>
    rw [List.filter_cons, List.filter_cons]
    by_cases e : q.1 = k
    · rw [if_neg (by simp [h.1.trans e]), if_neg (by simp [e])]; exact ih
    · rw [if_pos (by simpa [h.1] using e), if_pos (by simpa using e)]; exact .cons h ih
end
theorem KR.merge {K : Frag} {g : Gh} {ms : List (Key × V)} {ns : List (Key × Cl)} (h : KR K g ms ns) : ∀ {vs : List (Key × V)} {cs : List (Key × Cl)}, KR K g vs cs → KR K g (mergeK vs ms) (mergeC cs ns) := by
  induction h with
  | nil => exact fun r => r
  | @cons p q ps qs h t ih =>
    intro vs cs r
    have z := r.put q.1 h.2
    have e : putK vs p.1 p.2 = putK vs q.1 p.2 := by rw [h.1]
    show KR K g (mergeK (putK vs p.1 p.2) ps) (mergeC (putC cs q.1 q.2) qs)
    rw [e]
    exact ih z
def toK : D → Option Key
  | .int i => some (.inl i)
  | .str x => some (.inr x)
  | _ => none
theorem toK_v {K : Frag} {H : Hp} {v : V} {d : D} {k : Key} (r : Rp K H v d) (h : toK d = some k) : v = kV k := by
  cases r <;> simp [toK] at h <;> subst h <;> rfl
theorem RE.dkAt {K : Frag} {G : Hp} {g : Gh} {H : Hp} {σ : L2.St} {δ : Sx} (r : RE K G g H σ δ) {l : Nat} {a : Addr} {xs : List (Key × Cl)} (h : g.r[l]? = some a) (hx : δ.s[l]? = some (.dk xs)) : ∃ vs, H a = some (.dK vs) ∧ KR K g vs xs := by
  obtain ⟨b, u, h1, h2, h3, h4⟩ := r.ob l _ hx rfl
  rw [h] at h1
  cases h1
  cases h3 with
  | dk h3 => exact ⟨_, h2, h3⟩
section
variable {X : Cx} {E : XQ} {a b e o f : Expr} {pos : Pos} {m mk mx : M D} {mc : M Cl} {ml : M Nat} {m1 m2 : M Fl}
/-- d[k] -/
def mDGet (ml : M Nat) (mk : M D) : M Cl := mBind ml fun l => mBind mk fun e δ => match δ.s[l]?, toK e with
  | some (.dk kvs), some k => match valC kvs k with
    | some c => .ok c δ
    | none => .bad
  | _, _ => .bad
theorem jc_dget (hu : X.A.units + 64 < cLine) (ho : PE X o (tOfL X.K E ml)) (hi : PE X e (tOf X.K E mk)) (hs : NoSl e) : PE X (.Subscript o e pos) (tOfC X.K E (mDGet ml mk)) :=
  pe_imp (pe_dget (by omega) ho hi hs) fun σ H Q ⟨G, g, δ, re, po⟩ => tOfL.step re po fun q l g1 H1 δ1 e1 re1 r1 po1 => tOf.step re1 po1 fun y d g2 H2 δ2 e2 re2 r2 po2 => by
    split at po2
    · rename_i kvs k hx hk
      split at po2
      · rename_i c hc
        obtain ⟨vs, h1, h2⟩ := re2.dkAt (e2.r _ _ r1) hx
        obtain ⟨v, h3, h4⟩ := h2.some hc
        refine ⟨q, v, rfl, ?_, Post.of po2 re2 v h4⟩
        rw [toK_v r2 hk, ← h3]
        exact DGet.k h1
      · exact po2.elim
    · exact po2.elim
def isDk (l : Nat) : M Nat := fun δ => match δ.s[l]? with
  | some (.dk _) => .ok l δ
  | _ => .bad
theorem isDk_ok (l : Nat) (δ : Sx) : isDk l δ = .bad ∨ ∃ xs, δ.s[l]? = some (.dk xs) ∧ isDk l δ = .ok l δ := by
  unfold isDk
  split
  · rename_i xs h
    exact .inr ⟨xs, h, rfl⟩
  · exact .inl rfl
theorem isDk_po {K : Frag} {G : Hp} {g : Gh} {σ : L2.St} {δ : Sx} {l : Nat} {β : Type} {f : Nat → M β} {QQ : β → Gh → Hp → Sx → Prop} (po : Post K E G g σ (mBind (isDk l) f δ) QQ) : ∃ xs, δ.s[l]? = some (.dk xs) ∧ Post K E G g σ (f l δ) QQ := by
  unfold mBind at po
  rcases isDk_ok l δ with h | ⟨xs, hx, h⟩
  · rw [h] at po; exact po.elim
  · rw [h] at po; exact ⟨xs, hx, po⟩
def mDGet2 (ml : M Nat) (mk : M D) (mc : M Cl) : M Cl := mBind ml fun l => mBind (isDk l) fun l => mBind mk fun e => mBind mc fun z δ => match δ.s[l]?, toK e with
  | some (.dk kvs), some k => .ok ((valC kvs k).getD z) δ
  | _, _ => .bad
theorem jc_dget2 {apos cpos : Pos} (hu : X.A.units + 64 < cLine) (ho : PE X o (tOfL X.K E ml)) (he : PE X e (tOf X.K E mk)) (hf : PE X f (tOfC X.K E mc)) (m : M2 X o "get" apos e f cpos) : PE X (.Call (.Attribute o "get" apos) [e, f] [] cpos) (tOfC X.K E (mDGet2 ml mk mc)) :=
  pe_imp (pe_dget2 (by omega) ho he hf m) fun σ H Q ⟨G, g, δ, re, po⟩ => tOfL.step re po fun q l g1 H1 δ1 e1 re1 r1 po1 => by
    obtain ⟨xs0, hx0, po1⟩ := isDk_po po1
    obtain ⟨vs0, k1, k2⟩ := re1.dkAt r1 hx0
    refine ⟨q, rfl, .inl ⟨vs0, .inl k1⟩, tOf.step re1 po1 fun y d g2 H2 δ2 e2 re2 r2 po2 => tOfC.step re2 po2 fun w z g3 H3 δ3 e3 re3 r3 po3 => ?_⟩
    split at po3
    · rename_i kvs k hx hk
      obtain ⟨vs, h1, h2⟩ := re3.dkAt (e3.r _ _ (e2.r _ _ r1)) hx
      refine ⟨valV vs k, ?_, ?_⟩
      · rw [toK_v r2 hk]
        exact DGet.k h1
      · rcases h2.val k with ⟨a1, a2⟩ | ⟨v, c, a1, a2, a3⟩
        · rw [a1] at po3; rw [a2]; exact Post.of po3 re3 w r3
        · rw [a1] at po3; rw [a2]; exact Post.of po3 re3 v a3
    · exact po3.elim
/-- d[k] = x -/
def mDPut (ml : M Nat) (mk : M D) (mc : M Cl) : M Fl := mBind mc fun c => mBind ml fun l => mBind mk fun e δ => match δ.s[l]?, toK e with
  | some (.dk kvs), some k => if kvs.length < sizeLine then .ok .nx ⟨δ.e, δ.s.set l (.dk (putC kvs k c))⟩ else .bad
  | _, _ => .bad
theorem js_dput {pos' : Pos} {v : Expr} (hu : X.A.units + 64 < cLine) (ho : PE X o (tOfL X.K E ml)) (hi : PE X e (tOf X.K E mk)) (hv : PE X v (tOfC X.K E mc)) (hs : swapsWith v (some (.Subscript o e pos')) pos.line X.env = pure false := by rfl) : PS X (.Assign [.Subscript o e pos'] v pos) (tOfS X.K E (mDPut ml mk mc)) :=
  pst_imp (ps_dput (by omega) ho hi hv hs) fun B σ H ⟨G, g, δ, re, po⟩ => tOfC.stepS re po fun w c g1 H1 δ1 e1 re1 r1 po1 => tOfL.stepS re1 po1 fun q l g2 H2 δ2 e2 re2 r2 po2 => tOf.stepS re2 po2 fun y d g3 H3 δ3 e3 re3 r3 po3 => by
    split at po3
    · rename_i kvs k hx hk
      split at po3
      · rename_i hl
        have ha := e3.r _ _ r2
        obtain ⟨vs, h1, h2⟩ := re3.dkAt ha hx
        refine ⟨q, _, rfl, ?_, PostS.of po3 (re3.write hx rfl ha (.dk (h2.put k ((r1.le e2).le e3))))⟩
        rw [toK_v r3 hk]
        exact DPut.k h1 (by rw [h2.length]; exact hl)
      · exact po3.elim
    · exact po3.elim
/-- k in d, k not in d -/
def mDIn (neg : Bool) (mk : M D) (ml : M Nat) : M D := mBind mk fun e => mBind ml fun l δ => match δ.s[l]?, toK e with
  | some (.dk kvs), some k => .ok (.bool (if neg then !(valC kvs k).isSome else (valC kvs k).isSome)) δ
  | _, _ => .bad
/-- {} -/
def mDNew : M Nat := mAll (.dk [])
theorem Fro.new {K : Frag} {G : Hp} {g : Gh} {H : Hp} {σ : L2.St} {δ : Sx} {p : Addr} {o : Ob} {u : HO} (re : RE K G g H σ δ) (hp : H p = none) (h : ObR K g o u) : Fro K G g (upd H p u) p o :=
  ⟨⟨u, upd_same, h⟩, ex_none re.ex hp, (by
    cases q : G p with
    | none => rfl
    | some u => have := (re.fg p u q).1; rw [hp] at this; cases this), re.nin hp⟩
/-- {k: x, ..} -/
def evP : List (M D × M Cl) → M (List (Key × Cl))
  | [] => mPure []
  | (mk, mc) :: r => mBind mk fun e => mBind (mOpt (toK e)) fun k => mBind mc fun c => mBind (evP r) fun ps => mPure ((k, c) :: ps)
def mDisp (ps : List (M D × M Cl)) : M Nat := mBind (evP ps) fun kvs => mBind (mOpt (if kvs.length ≤ 15 then some () else none)) fun _ => mAll (.dk (mergeC [] kvs))
/-- something fresh that is nobody's, lent out to nobody -/
theorem RE.hide' {K : Frag} {G : Hp} {g : Gh} {H : Hp} {σ : L2.St} {δ : Sx} {C : Addr} {u : HO} (re : RE K G g H σ δ) (ha : H C = some u) (hs : g.h C = none) (nr : C ∉ g.r) (hu : ∀ xs, u ≠ .tup xs) (hx : ∀ fs, u ≠ .xd fs := by intro _ z; cases z) : RE K (upd G C u) g H σ δ where
  ex := re.ex
  fg := fun a o q => by
    by_cases e : a = C
    · subst e
      rw [upd_same] at q
      cases q
      exact ⟨ha, hs, nr⟩
    · rw [upd_ne e] at q
      exact re.fg a o q
  len := re.len
  rl := re.rl
  sl := re.sl
  ob := re.ob
  nd := re.nd
  al := re.al
  nt := fun a ys q => by
    have e : a ≠ C := fun z => by subst z; rw [ha] at q; cases q; exact hu ys rfl
    rw [upd_ne e]
    exact re.nt a ys q
  gx := fun a fs q => by
    by_cases e : a = C
    · subst e; rw [upd_same] at q; cases q; exact hx _ rfl
    · rw [upd_ne e] at q; exact re.gx a fs q
  fz := re.fz
inductive PPJ (X : Cx) (E : XQ) (pos : Pos) : List (Option Expr) → List Expr → List (TE × TE) → List (M D × M Cl) → Prop where
  | nil : PPJ X E pos [] [] [] []
  | cons {k v : Expr} {ks : List (Option Expr)} {vs : List Expr} {trs : List (TE × TE)} {ps : List (M D × M Cl)} {mk : M D} {mc : M Cl} : PE X k (tOf X.K E mk) → PE X v (tOfC X.K E mc) → PPJ X E pos ks vs trs ps → PPJ X E pos (some k :: ks) (v :: vs) ((tOf X.K E mk, tOfC X.K E mc) :: trs) ((mk, mc) :: ps)
theorem PPJ.pps {X : Cx} {E : XQ} {pos : Pos} {ks : List (Option Expr)} {vs : List Expr} {trs : List (TE × TE)} {ps : List (M D × M Cl)} (h : PPJ X E pos ks vs trs ps) : PPs X pos ks vs trs := by
  induction h with
  | nil => exact pps_nil
  | cons h1 h2 _ ih => exact pps_cons h1 h2 ih
theorem PPJ.all {X : Cx} {E : XQ} {pos : Pos} {ks : List (Option Expr)} {vs : List Expr} {trs : List (TE × TE)} {ps : List (M D × M Cl)} (h : PPJ X E pos ks vs trs ps) : ks.all (·.isSome) = true ∧ ks.length = vs.length := by
  induction h with
  | nil => exact ⟨rfl, rfl⟩
  | cons h1 h2 _ ih => exact ⟨by rw [List.all_cons, ih.1]; rfl, by rw [List.length_cons, List.length_cons, ih.2]⟩
theorem PPJ.read {X : Cx} {E : XQ} {pos : Pos} {ks : List (Option Expr)} {vs : List Expr} {trs : List (TE × TE)} {ps : List (M D × M Cl)} (h : PPJ X E pos ks vs trs ps) : ∀ {G : Hp} {g : Gh} {H : Hp} {σ : L2.St} {δ : Sx} {β : Type} {f : List (Key × Cl) → M β} {QQ : β → Gh → Hp → Sx → Prop} {R : List (V × V) → Hp → Prop}, RE X.K G g H σ δ → Post X.K E G g σ (mBind (evP ps) f δ) QQ →
    (∀ kvs cs g1 H1 δ1, Le g g1 → RE X.K G g1 H1 σ δ1 → KR X.K g1 kvs cs → Post X.K E G g1 σ (f cs δ1) QQ → R (kvs.map fun kv => (kV kv.1, kv.2)) H1) → tPairs trs σ H R := by
  induction h with
  | nil =>
    intro G g H σ δ β f QQ R re po k
    exact k [] [] g H δ (Le.refl _) re .nil po
  | @cons ek ev ks vs trs ps mk mc h1 h2 _ ih =>
    intro G g H σ δ β f QQ R re po k
    unfold evP at po
    rw [bind_assoc] at po
    refine tOf.step re po fun x d g1 H1 δ1 e1 re1 r1 po1 => ?_
    rw [bind_assoc] at po1
    obtain ⟨kk, hk, po2⟩ := Post.optB po1
    rw [bind_assoc] at po2
    refine tOfC.step re1 po2 fun y c g2 H2 δ2 e2 re2 r2 po3 => ?_
    rw [bind_assoc] at po3
    refine ih re2 po3 fun kvs cs g3 H3 δ3 e3 re3 r3 po4 => ?_
    have := k ((kk, y) :: kvs) ((kk, c) :: cs) g3 H3 δ3 ((e1.trans e2).trans e3) re3 (.cons ⟨rfl, r2.le e3⟩ r3) po4
    rw [List.map_cons] at this
    rw [toK_v r1 hk]
    exact this
theorem jl_disp {ks : List (Option Expr)} {vs : List Expr} {trs : List (TE × TE)} {ps : List (M D × M Cl)} (h : PPJ X E pos ks vs trs ps) (h0 : ks ≠ []) (h15 : ks.length ≤ 15) : PE X (.Dict ks vs pos) (tOfL X.K E (mDisp ps)) :=
  pe_imp (pe_disp h.pps h.all.1 h.all.2 h0 h15) fun σ H Q ⟨G, g, δ, re, po⟩ p hp => by
    have en : Ex H (upd H p (.dK [])) := ex_new hp
    have f := Fro.new (o := .dk []) re hp (.dk .nil)
    have re1 := (re.newH en).hide' (C := p) (u := .dK []) upd_same f.hs f.nr (fun _ z => nomatch z)
    have po' : Post X.K E (upd G p (.dK [])) g σ (mBind (evP ps) (fun kvs => mPure kvs) δ) fun kvs g' H' δ' => ∃ g2 H2 δ2, RE X.K (upd G p (.dK [])) g' H' σ δ' ∧ (∀ u, RE X.K G g' u σ δ' → Post X.K E G g' σ (mBind (mOpt (if kvs.length ≤ 15 then some () else none)) (fun _ => mAll (.dk (mergeC [] kvs))) δ') fun l g' H' _ => ∀ a, g'.r[l]? = some a → Q (.ref a) H') ∧ g2 = g' ∧ H2 = H' ∧ δ2 = δ' := by
      unfold mDisp at po
      unfold mBind at po ⊢
      cases q : evP ps δ with
      | ok kvs δ1 =>
        rw [q] at po
        exact fun g' H' e r => ⟨g', H', δ1, r, fun u _ => Post.ex po e, rfl, rfl, rfl⟩
      | exc x δ1 =>
        rw [q] at po
        intro g' H' e r
        have hr := r.shown (u := .dK []) (C := p) f.gg
        have z := po g' _ e hr
        have hu : upd H' p (.dK []) = H' := by
          funext b
          by_cases hb : b = p
          · subst hb; rw [upd_same]; exact ((r.fg b _ upd_same).1).symm
          · rw [upd_ne hb]
        rw [hu] at z
        exact z
      | bad => rw [q] at po; exact po
    refine h.read re1 po' fun kvs cs g2 H2 δ2 e2 re2 r2 po2 => ?_
    obtain ⟨_, _, _, re3, po3, _⟩ := po2 g2 H2 (Le.refl _) re2
    have hf := re2.fg p _ upd_same
    refine ⟨hf.1, kvs, rfl, ?_, ?_⟩
    · have := po3 _ (re2.shown (u := .dK []) f.gg)
      obtain ⟨_, h1, _⟩ := Post.optB this
      split at h1
      · rename_i hl
        rw [r2.length]; exact hl
      · cases h1
    · have re4 := re2.shown (u := .dK (mergeK [] kvs)) f.gg
      obtain ⟨_, h1, po4⟩ := Post.optB (po3 _ re4)
      have fr : Fro X.K G g2 (upd H2 p (.dK (mergeK [] kvs))) p (.dk (mergeC [] cs)) := ⟨⟨_, upd_same, .dk (KR.merge r2 .nil)⟩, hf.2.1, f.gg, hf.2.2⟩
      obtain ⟨g5, k1, k2⟩ := allS re4 fr po4
      exact k1 p k2
def mUpd (ml mo : M Nat) : M Fl := mBind ml fun l => mBind (isDk l) fun l => mBind mo fun k δ => match δ.s[l]?, δ.s[k]? with
  | some (.dk kvs), some (.dk more) => if l ≠ k ∧ kvs.length + more.length ≤ sizeLine then .ok .nx ⟨δ.e, δ.s.set l (.dk (mergeC kvs more))⟩ else .bad
  | _, _ => .bad
end
end Ds
namespace Ds
open PySem PySem.Spec PyProof.Rows L2 PySem.Froz
section
variable {P : Program} {w : World} {A : Around} {E : Value → Shared → Prop} {s : Shared} {a : Addr} {l : List Str}
def TxSet (P : Program) (w : World) (h : Heap) (a : Addr) (l : List Str) : Prop :=
  ∃ D : SD, h.get? a = some (sObj "set" D) ∧ TxOk P w D l ∧ Ris D.2.2.place.toList ∧ (w.params.followText "set-order" = true ∨ D.2.2.led = true) ∧ l.Nodup ∧ l.length < scanBound
theorem TxSet.at_ {h h' : Heap} (R : TxSet P w h a l) (k : ∀ o, h.get? a = some o → h'.get? a = some o) : TxSet P w h' a l := by
  obtain ⟨D, ho, r⟩ := R
  exact ⟨D, k _ ho, r⟩
def setNo (w : World) : Obj := { cls := .type "set", dict := none, data := .set #[] 0 (.fresh 0 0 (!w.params.followText "set-order")) }
theorem TxSet.none {h : Heap} (ho : h.get? a = some (setNo w)) : TxSet P w h a [] :=
  ⟨(#[], 0, .fresh 0 0 (!w.params.followText "set-order")), ho, TxOk.nil rfl, List.Pairwise.nil, by
    show _ ∨ (!w.params.followText "set-order") = true
    cases w.params.followText "set-order"
    · exact .inr rfl
    · exact .inl rfl, List.nodup_nil, by decide⟩
def addT (l : List Str) (k : Str) : List Str := if k ∈ l then l else k :: l
def metT (xs : List Str) : List Str := xs.foldl addT []
theorem addT_len (l : List Str) (x : Str) : (addT l x).length ≤ l.length + 1 := by
  unfold addT
  split
  · omega
  · simp
theorem metT_len (xs : List Str) : (metT xs).length ≤ xs.length := by
  have h : ∀ (xs l : List Str), (xs.foldl addT l).length ≤ l.length + xs.length := fun xs => by
    induction xs with
    | nil => intro l; simp
    | cons x r ih =>
      intro l
      have h1 := ih (addT l x)
      have h2 := addT_len l x
      rw [List.foldl_cons, List.length_cons]
      omega
  have := h xs []
  simpa [metT] using this
end
end Ds
namespace Ds
open PySem PySem.Spec PyProof.Rows L2 PySem.Froz
def leS (a b : Str) : Bool := !ltCps b.cps.toList a.cps.toList
def sortT (xs : List Str) : List Str := xs.mergeSort leS
theorem leS_lt (a b : Str) : leS a b = !decide (b.cps.toList < a.cps.toList) := by unfold leS; rw [ltCps_eq]
theorem leS_total (a b : Str) : (leS a b || leS b a) = true := by
  rw [leS_lt, leS_lt]
  by_cases h : b.cps.toList < a.cps.toList
  · have h2 : ¬ a.cps.toList < b.cps.toList := List.lt_asymm h
    simp [h, h2]
  · simp [h]
theorem leS_trans (a b c : Str) (h1 : leS a b = true) (h2 : leS b c = true) : leS a c = true := by
  rw [leS_lt] at *
  have h1 : ¬ b.cps.toList < a.cps.toList := by simpa using h1
  have h2 : ¬ c.cps.toList < b.cps.toList := by simpa using h2
  have : ¬ c.cps.toList < a.cps.toList := fun h => by
    have := List.le_trans (List.not_lt.mp h1) (List.not_lt.mp h2)
    exact List.not_lt.mpr this h
  simpa using this
theorem leS_anti {a b : Str} (h1 : leS a b = true) (h2 : leS b a = true) : a = b := by
  rw [leS_lt] at *
  have h1 : ¬ b.cps.toList < a.cps.toList := by simpa using h1
  have h2 : ¬ a.cps.toList < b.cps.toList := by simpa using h2
  exact Str.ext' (Array.toList_inj.mp (List.le_antisymm (List.not_lt.mp h1) (List.not_lt.mp h2)))
theorem sort_one : ∀ {xs ys : List Str}, (xs.Pairwise fun a b => leS a b = true) → (ys.Pairwise fun a b => leS a b = true) → xs.Perm ys → xs = ys
  | [], ys, _, _, p => (List.nil_perm.mp p).symm
  | x :: xs, [], _, _, p => absurd p (List.not_perm_cons_nil)
  | x :: xs, y :: ys, h1, h2, p => by
    have e : x = y := by
      have m1 := p.mem_iff.mp (List.mem_cons_self (a := x))
      have m2 := p.mem_iff.mpr (List.mem_cons_self (a := y))
      rcases List.mem_cons.mp m1 with e | m1
      · exact e
      · rcases List.mem_cons.mp m2 with e | m2
        · exact e.symm
        · exact leS_anti ((List.pairwise_cons.mp h1).1 y m2) ((List.pairwise_cons.mp h2).1 x m1)
    subst e
    rw [sort_one (List.pairwise_cons.mp h1).2 (List.pairwise_cons.mp h2).2 (List.perm_cons x |>.mp p)]
theorem mem_addT {l : List Str} {x y : Str} : y ∈ addT l x ↔ y ∈ l ∨ y = x := by
  unfold addT
  split
  · rename_i h
    exact ⟨.inl, fun z => z.elim id fun e => e ▸ h⟩
  · rw [List.mem_cons]
    exact Or.comm
theorem mem_metT {xs : List Str} {y : Str} : y ∈ metT xs ↔ y ∈ xs := by
  have h : ∀ (xs l : List Str), y ∈ xs.foldl addT l ↔ y ∈ l ∨ y ∈ xs := fun xs => by
    induction xs with
    | nil => intro l; simp
    | cons x r ih =>
      intro l
      rw [List.foldl_cons, ih, mem_addT, List.mem_cons]
      exact or_assoc
  have := h xs []
  simpa [metT] using this
theorem metT_nodup (xs : List Str) : (metT xs).Nodup := by
  have h : ∀ (xs l : List Str), l.Nodup → (xs.foldl addT l).Nodup := fun xs => by
    induction xs with
    | nil => intro l h; exact h
    | cons x r ih =>
      intro l h
      refine ih _ ?_
      unfold addT
      split
      · exact h
      · rename_i hx
        exact List.nodup_cons.mpr ⟨hx, h⟩
  exact h xs [] List.nodup_nil
theorem sortT_same {xs ys : List Str} (h : ∀ z, z ∈ xs ↔ z ∈ ys) : sortT (metT xs) = sortT (metT ys) := by
  have p : (metT xs).Perm (metT ys) := (List.perm_ext_iff_of_nodup (metT_nodup xs) (metT_nodup ys)).mpr fun z => by rw [mem_metT, mem_metT, h]
  exact sort_one (List.pairwise_mergeSort leS_trans leS_total _) (List.pairwise_mergeSort leS_trans leS_total _) ((List.mergeSort_perm _ _).trans (p.trans (List.mergeSort_perm _ _).symm))
end Ds
namespace Ds
open PySem PySem.Spec PyProof.Rows L2 Dn
theorem ext_tup (l : Addr) (us : Array Value) (n : Nat) (b : Addr) (vs : Array Value) (n2 : Nat) (dd : Option Addr) (sl : Array (Option Value)) (h0 : ¬(!us.isEmpty && Builtin.List.listTooLong (us.size + vs.size)) = true) (h1 : us.size ≤ sizeLine) (h2 : us.size + vs.size ≤ sizeLine + 1) :
    Meets (Builtin.«list.extend» ⟨[.ref l, .ref b], []⟩) (fun _ R s => s.heap.get? l = some { cls := .type "list", dict := none, data := .seq us n, slots := #[] } ∧ s.heap.get? b = some { cls := .type "tuple", dict := dd, data := .seq vs n2, slots := sl } ∧ R (.ok (.ret Value.none)) { s with heap := s.heap.update l (Obj.mapSeq fun x => x ++ vs), toks := s.toks }) :=
  .of_wp fun prog w A R s h => by
    obtain ⟨hp, g, d, tk, os⟩ := s; obtain ⟨k1, k2, k3⟩ := h; have f1 := AutoSeq1.idx_int; have f2 := AutoSeq1.sub_tuple_tuple; have f3 := AutoSeq1.sub_list_list; have f4 := AutoSeq1.sub_tuple_list; have f5 := AutoSeq1.sub_list_tuple
    have hz : (us ++ vs).size ≤ sizeLine + 1 := by rw [Array.size_append]; exact h2
    wp_walk using (wpAny_updateSeq k1 rfl (hz := h1) (_hz' := hz)), AutoSeq1.wpAny_loadPart' k1, AutoSeq1.wpAny_loadPart' k2
    exact ⟨_, rfl, k3⟩
theorem ext_lst (l : Addr) (us : Array Value) (n : Nat) (b : Addr) (vs : Array Value) (n2 : Nat) (dd : Option Addr) (sl : Array (Option Value)) (h0 : ¬(!us.isEmpty && Builtin.List.listTooLong (us.size + vs.size)) = true) (h1 : us.size ≤ sizeLine) (h2 : us.size + vs.size ≤ sizeLine + 1) :
    Meets (Builtin.«list.extend» ⟨[.ref l, .ref b], []⟩) (fun _ R s => s.heap.get? l = some { cls := .type "list", dict := none, data := .seq us n, slots := #[] } ∧ s.heap.get? b = some { cls := .type "list", dict := dd, data := .seq vs n2, slots := sl } ∧ R (.ok (.ret Value.none)) { s with heap := s.heap.update l (Obj.mapSeq fun x => x ++ vs), toks := s.toks }) :=
  .of_wp fun prog w A R s h => by
    obtain ⟨hp, g, d, tk, os⟩ := s; obtain ⟨k1, k2, k3⟩ := h; have f1 := AutoSeq1.idx_int; have f2 := AutoSeq1.sub_tuple_tuple; have f3 := AutoSeq1.sub_list_list; have f4 := AutoSeq1.sub_tuple_list; have f5 := AutoSeq1.sub_list_tuple
    have hz : (us ++ vs).size ≤ sizeLine + 1 := by rw [Array.size_append]; exact h2
    wp_walk using (wpAny_updateSeq k1 rfl (hz := h1) (_hz' := hz)), AutoSeq1.wpAny_loadPart' k1, AutoSeq1.wpAny_loadPart' k2
    exact ⟨_, rfl, k3⟩
section
variable {X : Cx}
def rExtA (K : PySem.W.Frag) : V → List V → Hp → VK → Prop := fun x vs H Q => ∃ l b xs zs, x = .ref l ∧ vs = [.ref b] ∧ H l = some (.lst xs) ∧ (SqL K H b zs ∨ SqT K H b zs) ∧ xs.length + zs.length ≤ sizeLine ∧ Q .non (upd H l (.lst (xs ++ zs)))
theorem mt_extA : MtM X "list.extend" (rExtA X.K) := by
  intro pins s σ H x vs v us Q I rx rv h
  obtain ⟨l, b, xs, zs, rfl, rfl, hH, hB, hz, q⟩ := h
  cases rx
  obtain ⟨u, rfl, ru⟩ := rv.one
  cases ru
  obtain ⟨z, its, n, r, hl, e⟩ := I.lstM hH
  have fin : ∀ (jts : List Value), Vals zs jts → EP X pins σ Q Value.none { s with heap := s.heap.update l (Obj.mapSeq fun x => x ++ jts.toArray), toks := s.toks } := fun jts r2 => by
    refine ⟨.non, _, I.lset (its' := its ++ jts) hH e (by simp) (r.append r2) ?_, rfl, q⟩
    rw [List.length_append]
    omega
  have len : ∀ (jts : List Value), Vals zs jts → its.toArray.size + jts.toArray.size ≤ sizeLine := fun jts r2 => by
    have := r2.length
    have := r.length
    rw [List.size_toArray, List.size_toArray]
    omega
  have lng : ∀ (jts : List Value), Vals zs jts → ¬ (!its.toArray.isEmpty && Builtin.List.listTooLong (its.toArray.size + jts.toArray.size)) = true := fun jts r2 => by
    rw [notLongL (len jts r2), Bool.and_false]
    exact Bool.false_ne_true
  rcases hB with hB | hB
  · obtain ⟨jts, r2, ⟨o2, n2, g2, c2, d2, t2⟩, _⟩ := I.list hB
    obtain ⟨oc, od, odt, osl⟩ := o2
    simp only at c2 d2 t2
    subst c2 d2 t2
    have hs := len jts r2
    exact call_meets PySem.F.slot_list_extend ⟨_, e, rfl⟩ PySem.F.entry_list_extend (PySem.F.args_list_extend_2 _ _) (ext_lst l its.toArray n b jts.toArray n2 _ _ (lng jts r2) (by omega) (by omega)) ⟨e, g2, fin jts r2⟩
  · obtain ⟨jts, r2, ⟨o2, g2, c2, n2, t2⟩, _⟩ := I.tuple hB
    obtain ⟨oc, od, odt, osl⟩ := o2
    simp only at c2 t2
    subst c2 t2
    have hs := len jts r2
    exact call_meets PySem.F.slot_list_extend ⟨_, e, rfl⟩ PySem.F.entry_list_extend (PySem.F.args_list_extend_2 _ _) (ext_tup l its.toArray n b jts.toArray n2 _ _ (lng jts r2) (by omega) (by omega)) ⟨e, g2, fin jts r2⟩
end
section
variable {X : Cx} {E : XQ} {o v e : Expr} {pos : Pos} {ml : M Nat} {mc : M Cl}
/-- y.extend(x) -/
def mExt (ml : M Nat) (mc : M Cl) : M Fl := mBind (mIsL ml) fun l => mBind mc fun c δ => match δ.s[l]?, (snap δ.s c).bind itemsD with
  | some (.lst xs), some ds => if xs.length + ds.length ≤ sizeLine then .ok .nx ⟨δ.e, δ.s.set l (.lst (xs ++ ds.map Cl.sh))⟩ else .bad
  | _, _ => .bad
theorem js_ext {apos cpos : Pos} (ho : PE X o (tOfL X.K E ml)) (he : PE X v (tOfC X.K E mc))
    {PE0 : PE X (.Call (.Attribute o "extend" apos) [v] [] cpos) (tBM X.K "list" (rExtA X.K) (tOfL X.K E ml) (tCons (tOfC X.K E mc) tNil))}
    (hs : swapsWith (.Call (.Attribute o "extend" apos) [v] [] cpos) none pos.line X.env = pure false := by rfl) : PS X (.Expr (.Call (.Attribute o "extend" apos) [v] [] cpos) pos) (tOfS X.K E (mExt ml mc)) :=
  pst_imp (ps_expr PE0 hs) fun B σ H ⟨G, g, δ, re, po⟩ => by
    show tBM _ _ _ _ _ _ _ _
    unfold tBM
    refine isLS re po fun q l g1 H1 δ1 e1 re1 r1 ht po1 => ⟨ht, ?_⟩
    refine tOfC.stepS re1 po1 fun w c g2 H2 δ2 e2 re2 r2 po2 => ?_
    split at po2
    · rename_i xs ds hx hd
      split at po2
      · rename_i hl
        obtain ⟨d, hd1, hd2⟩ := Option.bind_eq_some_iff.mp hd
        have ha' := e2.r _ _ r1
        obtain ⟨vs, h1, h2⟩ := re2.lstAt ha' hx
        obtain ⟨p, ys, e3, hq, t⟩ := snap_items re2 r2 hd1 hd2
        refine ⟨q, p, vs, ys, rfl, by rw [e3], h1, hq, by rw [h2.length, t.length]; exact hl, ?_⟩
        exact PostS.of po2 (re2.write hx rfl ha' (.lst (h2.append (rps_cr t))))
      · exact po2.elim
    · exact po2.elim
/-- sorted(set(x)), x some texts -/
def mTexts (f : List Str → D) (mc : M Cl) : M D := mBind mc fun c δ => match ((snap δ.s c).bind itemsD).bind toSs with
  | some ts => if ts.length + 1 < scanBound then .ok (f (metT ts)) δ else .bad
  | none => .bad
end
end Ds
namespace Ds
open PySem PySem.Spec PyProof.Rows L2 Dn
section
variable {X : Cx} {E : XQ} {a b e o : Expr} {pos : Pos} {m : M D}
theorem jc_var {i : Nat} {x : Str} (hN : X.N[i]? = some x) (hv : Vis X.env.scope x) (hd : (x == ("__debug__" : Str)) = false := by decide) (hcd : (x == ("__classdict__" : Str)) = false := by decide) : PE X (.Name x pos) (tOfC X.K E (mCl i)) :=
  pe_imp (pe_var hN hv hd hcd) fun σ H Q ⟨G, g, δ, re, po⟩ => by
    unfold mCl at po
    split at po
    · rename_i d hd
      obtain ⟨v, h1, h2⟩ := re.sl i _ hd (by simp)
      exact ⟨v, h1, po g H (Le.refl _) re v h2⟩
    · rename_i d hd
      obtain ⟨v, h1, h2⟩ := re.sl i _ hd (by simp)
      exact ⟨v, h1, po g H (Le.refl _) re v h2⟩
    · exact po.elim
inductive KKeys : List DictEntry → List Str → Prop where
  | nil : KKeys [] []
  | cons {e : DictEntry} {r : List DictEntry} {x : Str} {t : Tok} {ks : List Str} : e.key = .str x t → KKeys r ks → KKeys (e :: r) (x :: ks)
theorem KKeys.find {es : List DictEntry} {ks : List Str} (h : KKeys es ks) (z : Str) : (es.find? (·.key.isStr z)).isSome = ks.contains z ∧ es.any (·.refKey) = false := by
  induction h with
  | nil => exact ⟨rfl, rfl⟩
  | @cons e r x t ks he _ ih =>
    have k1 : e.key.isStr z = (x == z) := by rw [he]; rfl
    have k2 : e.refKey = false := by unfold DictEntry.refKey; rw [he]
    refine ⟨?_, by rw [List.any_cons, ih.2, k2]; rfl⟩
    rw [List.find?_cons, k1, List.contains_cons]
    by_cases h : x = z
    · subst h; simp
    · have h1 : (x == z) = false := by simpa using h
      have h2 : (z == x) = false := by simpa using fun q => h q.symm
      rw [h1, h2, Bool.false_or]
      exact ih.1
def mKIn (neg : Bool) (ks : List Str) (m : M D) : M D := mBind m fun e => mOpt ((toS e).map fun z => .bool (if neg then !ks.contains z else ks.contains z))
end
end Ds
namespace Ds
open PySem PySem.Spec PyProof.Rows L2 Dn
/-- what an iterator of its own draws, bs: where its things lie -/
structure Src (P : Program) (w : World) (K : Frag) (J : It) (it : Addr) (bs : List Addr) (own : Nat → Heap → Prop) : Prop where
  obj : ∀ i h, own i h → ∃ o, h.get? it = some o ∧ ∀ v, o.data ≠ .cell v
  keep : ∀ i h h', own i h → (∀ o, h.get? it = some o → h'.get? it = some o) → own i h'
  go : ∀ (X : Cx), X.prog = P → X.w = w → X.K = K → X.calm = true → ∀ (i : Nat) (pins : List (Addr × Obj)) (s : Shared) (σ : L2.St) (H : Hp), Inv X pins σ H s → own i s.heap → J.go i H →
    ∃ (n : Nat) (Pv : Nat → Value → Prop) (T : Nat → Heap → Prop), Draws P w X.A.in1 it (it :: bs) n Pv T ∧ T i s.heap ∧ i < n ∧ (∀ j h', T j h' → own j h') ∧ ∀ u, Pv i u → ∃ x, RelV x u ∧ J.yld i H x H
  stop : ∀ (X : Cx), X.prog = P → X.w = w → X.K = K → X.calm = true → ∀ (i : Nat) (pins : List (Addr × Obj)) (s : Shared) (σ : L2.St) (H : Hp), Inv X pins σ H s → own i s.heap → J.stop i H →
    ∃ (Pv : Nat → Value → Prop) (T : Nat → Heap → Prop), Draws P w X.A.in1 it (it :: bs) i Pv T ∧ T i s.heap
/-- a value begins such an iterator -/
def Sour (X : Cx) (s : Shared) (u : Value) (J : It) : Prop := ∃ (o : Obj) (Hh : Heap → Prop) (bs : List Addr) (own : Addr → Nat → Heap → Prop), Begins u o Hh ∧ Hh s.heap ∧ (∀ b ∈ bs, b < s.heap.objs.size) ∧
  (∀ it h, h.get? it = some o → own it 0 h) ∧ ∀ it, it ∉ bs → Src X.prog X.w X.K J it bs (own it)
theorem draws_end {P : Program} {w : World} {A : Around} {it : Addr} {fp : List Addr} {T : Heap → Prop} (i : Nat) (lv : ∀ h, T h → ∃ o, h.get? it = some o) (fr : ∀ h h', T h → (∀ b ∈ fp, ∀ o, h.get? b = some o → h'.get? b = some o) → T h')
    (dn : ∀ (s : Shared) (Q : Value → Shared → Prop) (E : Value → Shared → Prop), T s.heap → (∀ h' e, Heap.ExtBut it s.heap h' → (∃ o, h'.get? e = some o ∧ o.cls = .type "StopIteration") → E (.ref e) { s with heap := h' }) → wpAny (model P w) A (Builtin.SmallTypes.nextOf (.ref it)) Q E s) :
    Draws P w A it fp i (fun _ _ => True) (fun j h => j = i ∧ T h) where
  live := fun j h ⟨_, t⟩ => lv h t
  frame := fun j h h' ⟨e, t⟩ k => ⟨e, fr h h' t k⟩
  item := fun j s Q E hlt ⟨e, _⟩ _ => absurd hlt (by omega)
  done := fun s Q E ⟨_, t⟩ hE => dn s Q E t hE
theorem src_tuple {P : Program} {w : World} {K : Frag} {a it : Addr} (hn : a ≠ it) : Src P w K (Itt K a) it [a] (fun i h => h.IsTupleIter it a i) where
  obj := fun i h ⟨o, e, _, d⟩ => ⟨o, e, fun v q => by rw [d] at q; cases q⟩
  keep := fun i h h' t k => t.at k
  go := by
    intro X hP hw hK hc i pins s σ H I t hg
    subst hP hw hK
    obtain ⟨xs, x, hq, hx⟩ := hg
    obtain ⟨its, rv, p, _⟩ := I.tuple hq
    obtain ⟨u, hu, ru⟩ := rv.get hx
    have pt : s.heap.IsTuple a its.toArray := p
    have hlt := (List.getElem?_eq_some_iff.mp hu).1
    have hh : X.A.in1.handled = none := I.ok.hd hc
    have dr := Draws.tuple (prog := X.prog) (w := X.w) hh it a hn its.toArray
    refine ⟨_, _, _, dr, ⟨t, pt⟩, by simpa using hlt, fun j h' z => z.1, fun v hv => ⟨x, ?_, rfl, fun ys hy => by rw [I.tuple_inj hy hq]; exact hx⟩⟩
    have : its[i]? = some v := by simpa using hv
    rw [hu] at this
    rw [← Option.some.inj this]
    exact ru
  stop := by
    intro X hP hw hK hc i pins s σ H I t hg
    subst hP hw hK
    obtain ⟨xs, hq, hx⟩ := hg
    obtain ⟨its, rv, p, _⟩ := I.tuple hq
    have hl := rv.length
    have pt : s.heap.IsTuple a its.toArray := p
    refine ⟨_, _, draws_end (T := fun h => h.IsTupleIter it a i ∧ h.IsTuple a its.toArray) i (fun h z => let ⟨o, q, _⟩ := z.1; ⟨o, q⟩) (fun h h' z k => ⟨z.1.at fun o q => k it (by simp) o q, z.2.at fun o q => k a (by simp) o q⟩) fun s Q E z hE => ?_, rfl, t, pt⟩
    exact wpAny_nextOf_tuple_end (A := X.A.in1) (I.ok.hd hc) z.1 z.2 (by simp; omega) hE
theorem src_list {P : Program} {w : World} {K : Frag} {a it : Addr} (hn : a ≠ it) : Src P w K (Itl K a) it [a] (fun i h => h.IsListIter it a i) where
  obj := fun i h ⟨o, e, _, d⟩ => ⟨o, e, fun v q => by rw [d] at q; cases q⟩
  keep := fun i h h' t k => t.at k
  go := by
    intro X hP hw hK hc i pins s σ H I t hg
    subst hP hw hK
    obtain ⟨xs, x, hq, hx⟩ := hg
    obtain ⟨its, rv, p, _⟩ := I.list hq
    obtain ⟨u, hu, ru⟩ := rv.get hx
    have hlt := (List.getElem?_eq_some_iff.mp hu).1
    have hh : X.A.in1.handled = none := I.ok.hd hc
    have dr := Draws.list (prog := X.prog) (w := X.w) hh it a hn its.toArray
    refine ⟨_, _, _, dr, ⟨t, p.isList⟩, by simpa using hlt, fun j h' z => z.1, fun v hv => ⟨x, ?_, rfl, fun ys hy => by rw [I.list_inj hy hq]; exact hx⟩⟩
    have : its[i]? = some v := by simpa using hv
    rw [hu] at this
    rw [← Option.some.inj this]
    exact ru
  stop := by
    intro X hP hw hK hc i pins s σ H I t hg
    subst hP hw hK
    obtain ⟨xs, hq, hx⟩ := hg
    obtain ⟨its, rv, p, _⟩ := I.list hq
    have hl := rv.length
    refine ⟨_, _, draws_end (T := fun h => h.IsListIter it a i ∧ h.IsList a its.toArray) i (fun h z => let ⟨o, q, _⟩ := z.1; ⟨o, q⟩) (fun h h' z k => ⟨z.1.at fun o q => k it (by simp) o q, z.2.at fun o q => k a (by simp) o q⟩) fun s Q E z hE => ?_, rfl, t, p.isList⟩
    exact wpAny_nextOf_list_end (A := X.A.in1) (I.ok.hd hc) z.1 z.2 (by simp; omega) hE
theorem text_end {P : Program} {w : World} {A : Around} (hh : A.handled = none) (it : Addr) (x : Str) (t : Tok) {i : Nat} (hi : x.cps.size ≤ i) (s : Shared) (Q : Value → Shared → Prop) (E : Value → Shared → Prop) (z : s.heap.IsStrIter it (strIterType x) x t i)
    (hE : ∀ h' e, Heap.ExtBut it s.heap h' → (∃ o, h'.get? e = some o ∧ o.cls = .type "StopIteration") → E (.ref e) { s with heap := h' }) : wpAny (model P w) A (Builtin.SmallTypes.nextOf (.ref it)) Q E s := by
  have hx : x.cps[i]? = none := by simp [hi]
  unfold strIterType at z
  split at z
  · exact wpAny_nextOf_ascii_end hh z hx hE
  · exact wpAny_nextOf_wide_end hh z hx hE
theorem src_text {P : Program} {w : World} {K : Frag} {it : Addr} (x : Str) (t : Tok) : Src P w K (Its x) it [] (fun i h => h.IsStrIter it (strIterType x) x t i) where
  obj := fun i h ⟨o, e, _, d⟩ => ⟨o, e, fun v q => by rw [d] at q; cases q⟩
  keep := fun i h h' ⟨o, e, r⟩ k => ⟨o, k o e, r⟩
  go := by
    intro X hP hw hK hc i pins s σ H I z hg
    subst hP hw hK
    have hg : i < x.cps.size := hg
    have hh : X.A.in1.handled = none := I.ok.hd hc
    have dr := Draws.text (prog := X.prog) (w := X.w) hh it x t
    exact ⟨_, _, _, dr, z, hg, fun j h' q => q, fun v ⟨c, u, h1, h2⟩ => ⟨.str ⟨#[c]⟩, ⟨u, h2⟩, rfl, c, h1, rfl⟩⟩
  stop := by
    intro X hP hw hK hc i pins s σ H I z hg
    subst hP hw hK
    refine ⟨_, _, draws_end (T := fun h => h.IsStrIter it (strIterType x) x t i) i (fun h ⟨o, q, _⟩ => ⟨o, q⟩) (fun h h' ⟨o, e, r⟩ k => ⟨o, k it (by simp) o e, r⟩) fun s Q E q hE => ?_, rfl, z⟩
    exact text_end (A := X.A.in1) (I.ok.hd hc) it x t hg s Q E q hE
section
variable {X : Cx} {pins : List (Addr × Obj)} {s : Shared} {σ : L2.St} {H : Hp}
theorem sour_tuple {a : Addr} {xs : List V} (I : Inv X pins σ H s) (h : SqT X.K H a xs) : Sour X s (.ref a) (Itt X.K a) := by
  obtain ⟨its, rv, p, _⟩ := I.tuple h
  have pt : s.heap.IsTuple a its.toArray := p
  obtain ⟨o, e, _⟩ := p
  exact ⟨_, _, [a], fun it i h => h.IsTupleIter it a i, begins_tuple a its.toArray, pt, fun b hb => by simp at hb; rw [hb]; exact Heap.lt_size e, fun it h q => ⟨_, q, rfl, rfl⟩, fun it hn => src_tuple fun z => hn (by simp [z])⟩
theorem sour_list {a : Addr} {xs : List V} (I : Inv X pins σ H s) (h : SqL X.K H a xs) : Sour X s (.ref a) (Itl X.K a) := by
  obtain ⟨its, rv, p, _⟩ := I.list h
  obtain ⟨o, n, e, _⟩ := id p
  exact ⟨_, _, [a], fun it i h => h.IsListIter it a i, begins_list a its.toArray, p.isList, fun b hb => by simp at hb; rw [hb]; exact Heap.lt_size e, fun it h q => ⟨_, q, rfl, rfl⟩, fun it hn => src_list fun z => hn (by simp [z])⟩
theorem sour_text {x : Str} {t : Tok} : Sour X s (.str x t) (Its x) :=
  ⟨_, _, [], fun it i h => h.IsStrIter it (strIterType x) x t i, begins_text x t, trivial, fun b hb => by simp at hb, fun it h q => ⟨_, q, rfl, rfl⟩, fun it _ => src_text x t⟩
end
/-- .. each with its number, in new pairs -/
def ItE (J : It) : It := ⟨J.go, fun i H v H' => ∃ T x, v = .ref T ∧ H T = none ∧ H' = upd H T (.tup [.int (i : Nat), x]) ∧ J.yld i H x H, J.stop⟩
theorem turn_enumS {P : Program} {w : World} {K : Frag} {elts : List Expr} {kk : Nat} {tpos : Pos} {J : It} {e it : Addr} {bs : List Addr} {own : Nat → Heap → Prop} (S : Src P w K J it bs own) (hb : e ∉ it :: bs) :
    Turn P w K (.Tuple elts kk tpos) (ItE J) [e, it] e (fun i h => (∃ old, IsEnum h e it ((i : Nat) : Int) old) ∧ own i h) where
  mem := by simp
  obj := fun i h ⟨⟨old, he⟩, ho⟩ b hm => by
    rcases List.mem_cons.mp hm with z | z
    · rw [z]; exact ⟨_, he, fun v q => nomatch q⟩
    · simp at z; rw [z]; exact S.obj i h ho
  keep := fun i h h' ⟨⟨old, he⟩, ho⟩ k => ⟨⟨old, k e (by simp) _ he⟩, S.keep i h h' ho fun o q => k it (by simp) o q⟩
  item := by
    intro X hP hw hK hc i pins s σ H E I hf ⟨⟨old, he⟩, ho⟩ hg
    have hne : e ≠ it := fun z => hb (by simp [z])
    obtain ⟨n, Pv, T, D, hT, hlt, back, yl⟩ := S.go X hP hw hK hc i pins s σ H I ho hg
    have hel : e < s.heap.objs.size := Heap.lt_size he
    have hil : it < s.heap.objs.size := by obtain ⟨_, q, _⟩ := S.obj _ _ ho; exact Heap.lt_size q
    refine wpAny_pyNext_enum_itemD D he hT hlt hne hb fun u h1 tk pu out hT1 new1 sz1 k1 => ⟨_, rfl, ?_⟩
    obtain ⟨x, rx, yx⟩ := yl u pu
    refine wpAny_letOwnedTupleGo_enum (s := { s with heap := h1, toks := tk + 1 }) out fun h2 he2 sb => ?_
    have new2 : h2.get? s.heap.objs.size = some { cls := .type "tuple", data := .seq #[.int i tk, u] } := (sb.2 _ (Nat.ne_of_gt hel)).trans new1
    have ok : ObjOk X.prog X.w (upd H s.heap.objs.size (.tup [.int (i : Nat), x])) h2 s.heap.objs.size (.tup [.int (i : Nat), x]) :=
      ⟨Nat.le_of_ble_eq_true rfl, [.int i tk, u], .cons ⟨_, rfl⟩ (.cons rx .nil), ⟨_, new2, rfl, _, rfl⟩⟩
    have I1 : Inv X pins σ (upd H s.heap.objs.size (.tup [.int (i : Nat), x])) { s with heap := h2, toks := tk + 1 } := by
      refine I.turnedNew (ch := [e, it]) (fun b ob hm q => ?_) hf (Nat.le_refl _) ok
      have b1 : b ≠ e := fun z => hm (by simp [z])
      have b2 : b ≠ it := fun z => hm (by simp [z])
      exact (sb.2 b b1).trans (k1 b ob b1 b2 q)
    refine ⟨.ref s.heap.objs.size, _, I1, rfl, ⟨_, x, rfl, I.hok.fresh (Nat.le_refl _), rfl, yx⟩, ⟨⟨u, ?_⟩, ?_⟩, fun b hm => ?_⟩
    · have e1 : ((i + 1 : Nat) : Int) = (i : Int) + 1 := by omega
      rw [e1]; exact he2
    · exact S.keep _ _ _ (back _ _ hT1) fun o q => (sb.2 it hne.symm).trans q
    · have hlb : b < s.heap.objs.size := by
        rcases List.mem_cons.mp hm with z | z
        · rw [z]; exact hel
        · simp at z; rw [z]; exact hil
      rw [upd_ne (Nat.ne_of_lt hlb)]
      exact (hf b hm).1
  done := by
    intro X hP hw hK hc i pins s σ H E I hf ⟨⟨old, he⟩, ho⟩ hg
    obtain ⟨Pv, T, D, hT⟩ := S.stop X hP hw hK hc i pins s σ H I ho hg
    refine wpAny_pyNext_enum_endD D he hT fun h1 eb => ⟨rfl, ?_⟩
    exact I.turnedL (t' := s.toks) (ch := [e, it]) (fun b o hm q => eb b o (fun z => hm (by simp [z])) q) hf
  self := fun A i s Q E ⟨⟨_, he⟩, _⟩ h => wpAny_pyIter_enum he h
end Ds
namespace Ds
open PySem PySem.Spec PyProof.Rows L2 Dn
theorem meets_enB {v : Value} {o : Obj} {Hh : Heap → Prop} (B : Begins v o Hh) :
    Meets (Builtin.«enumerate.__new__» ⟨[.type "enumerate", v], []⟩) (fun _ R sh => Hh sh.heap ∧
      R (.ok (.ret (.ref (sh.heap.push o).objs.size))) { sh with heap := (sh.heap.push o).push { cls := .type "enumerate", data := .fields #[.none, .bool false, .ref sh.heap.objs.size, rawInt 0, .none, .none] } }) :=
  .of_wp fun prog w A R sh h => by
    obtain ⟨hp, gs, dr, tk, sy⟩ := sh
    obtain ⟨b1, h⟩ := h
    have hs := sub_enumerate
    have beg : ∀ {A' : Around} {E : Value → Shared → Prop} {Q : Value → Shared → Prop}, Q (.ref hp.objs.size) ⟨hp.push o, gs, dr, tk, sy⟩ → wpAny (model prog w) A' (pyIter v) Q E ⟨hp, gs, dr, tk, sy⟩ :=
      fun q => B.iter prog w _ _ ⟨hp, gs, dr, tk, sy⟩ _ b1 q
    wp_walk using beg
    refine wpAny_stack_any fun stk => wpAny_pure ?_
    split
    · rename_i c _ _ _ _ _
      cases (c == Value.type "enumerate")
      · wp_walk using beg
        exact ⟨_, rfl, h⟩
      · wp_walk using beg
        exact ⟨_, rfl, h⟩
    · wp_walk using beg
      exact ⟨_, rfl, h⟩
theorem call_enB {prog : Program} {w : World} {A : Around} {E : Value → Shared → Prop} {sh : Shared} {v : Value} {o : Obj} {Hh : Heap → Prop} {Q : Value → Shared → Prop} (B : Begins v o Hh) (b1 : Hh sh.heap)
    (h : ∀ h1, IsEnum h1 (sh.heap.objs.size + 1) sh.heap.objs.size 0 .none → h1.get? sh.heap.objs.size = some o → (∀ b ob, sh.heap.get? b = some ob → h1.get? b = some ob) → Q (.ref (sh.heap.objs.size + 1)) { sh with heap := h1 }) :
    wpAny (model prog w) A (call (.type "enumerate") [v]) Q E sh := by
  refine callType_new F.called_enumerate (by decide) (F.typeCall_enumerate_1 _) (F.newCall_enumerate_1 _) (fun ob => F.args_object_init_2 ob _) F.entry_enumerate_new (meets_enB B) ⟨b1, ?_⟩
  have z1 : (sh.heap.push o).objs.size = sh.heap.objs.size + 1 := Heap.size_push ..
  show _ ∧ _
  rw [z1]
  have en : IsEnum ((sh.heap.push o).push { cls := .type "enumerate", data := .fields #[.none, .bool false, .ref sh.heap.objs.size, rawInt 0, .none, .none] }) (sh.heap.objs.size + 1) sh.heap.objs.size 0 .none := by
    have q := Heap.get?_push_size (sh.heap.push o) (o := { cls := .type "enumerate", data := .fields #[.none, .bool false, .ref sh.heap.objs.size, rawInt 0, .none, .none] }) rfl
    rw [z1] at q
    exact q
  exact ⟨⟨_, en, rfl⟩, h _ en (Heap.get?_push_of_some _ (Heap.get?_push_size _ B.free)) fun b ob q => Heap.get?_push_of_some _ (Heap.get?_push_of_some _ q)⟩
/-- a list, a tuple, a text, and how it is walked -/
def SrcV (K : Frag) (H : Hp) (x : V) (J : It) : Prop := (∃ a xs, x = .ref a ∧ SqT K H a xs ∧ J = Itt K a) ∨ (∃ a xs, x = .ref a ∧ SqL K H a xs ∧ J = Itl K a) ∨ ∃ z, x = .str z ∧ J = Its z
section
variable {X : Cx}
theorem SrcV.sour {pins : List (Addr × Obj)} {s : Shared} {σ : L2.St} {H : Hp} {x : V} {u : Value} {J : It} (h : SrcV X.K H x J) (I : Inv X pins σ H s) (r : RelV x u) : Sour X s u J := by
  rcases h with ⟨a, xs, rfl, q, rfl⟩ | ⟨a, xs, rfl, q, rfl⟩ | ⟨z, rfl, rfl⟩
  · obtain rfl : u = .ref a := r
    exact sour_tuple I q
  · obtain rfl : u = .ref a := r
    exact sour_list I q
  · obtain ⟨t, rfl⟩ := r
    exact sour_text
def iEnS (K : Frag) (ta : TA) : TI := fun σ H R => ta σ H fun vs H1 => ∃ x J, vs = [x] ∧ SrcV K H1 x J ∧ R (ItE J) H1
theorem pi_enS {e : Expr} {ta : TA} {p pos tpos : Pos} {elts : List Expr} {kk : Nat} (hg : Gl X "enumerate") (hm : X.mg "enumerate" = none) (ha : PA X [e] ta) (hs : starEach [e] X.env = [(false, eval e X.env)] := by rfl) :
    PI X (.Tuple elts kk tpos) (.Call (.Name "enumerate" p) [e] [] pos) (iEnS X.K ta) := by
  constructor
  intro pins s σ H R I h
  refine Call_ (ld_blt I hg hm boot_enumerate (PyProof.Rows.callWith_type1 (thn (ha.run pos pins s σ H _ I h) ?_) hs rfl))
  rintro us s1 ⟨vs, H1, I1, r1, x, J, ex, hv, q⟩
  subst ex
  cases r1 with
  | cons r rr =>
    cases rr
    obtain ⟨o, Hh, bs, own, B, b1, lo, o0, S⟩ := hv.sour I1 r
    refine call_enB B b1 fun h1 en ho k1 => wpAny_pyIter_enum en ?_
    have I2 : Inv X pins σ H1 { s1 with heap := h1 } := I1.kept (t' := s1.toks) k1
    have n1 : s1.heap.objs.size ∉ bs := fun hm => absurd (lo _ hm) (Nat.lt_irrefl _)
    have n2 : s1.heap.objs.size + 1 ∉ s1.heap.objs.size :: bs := fun hm => by
      rcases List.mem_cons.mp hm with z | z
      · exact Nat.succ_ne_self _ z
      · exact Nat.not_succ_lt_self (lo _ z)
    refine ⟨s1.heap.objs.size + 1, [s1.heap.objs.size + 1, s1.heap.objs.size], _, _, H1, rfl, I2, turn_enumS (S _ n1) n2, ⟨⟨.none, en⟩, o0 _ _ ho⟩, fun b hb => ?_, q⟩
    have le : s1.heap.objs.size ≤ b := by
      rcases List.mem_cons.mp hb with z | z
      · rw [z]; exact Nat.le_add_right _ _
      · simp at z; rw [z]; exact Nat.le_refl _
    exact I1.fpOk le (I1.hok.fresh le)
end
end Ds
namespace Ds
open PySem PySem.Spec PyProof.Rows L2 Dn
def enumD (ds : List D) : List D := ds.zipIdx.map fun p => .tuple [.int (p.2 : Nat), p.1]
def zipD (ds es : List D) : List D := List.zipWith (fun d e => .tuple [d, e]) ds es
theorem enumD_at {ds : List D} {i : Nat} : (enumD ds)[i]? = (ds[i]?).map fun d => .tuple [.int (i : Nat), d] := by
  unfold enumD
  rw [List.getElem?_map, List.getElem?_zipIdx]
  cases ds[i]? with
  | none => rfl
  | some d => simp
/-- walking changes nothing -/
def Still (J : It) : Prop := ∀ i H x H', J.yld i H x H' → H' = H
theorem still_tup {K : Frag} {a : Addr} : Still (Itt K a) := fun _ _ _ _ h => h.1
theorem still_lst {K : Frag} {a : Addr} : Still (Itl K a) := fun _ _ _ _ h => h.1
theorem still_str {z : Str} : Still (Its z) := fun _ _ _ _ h => h.1
theorem it_enum {K : Frag} {Hs : Hp} {J : It} {ds : List D} (h : Dn.ItOk K Hs J ds) : Dn.ItOk K Hs (ItE J) (enumD ds) := fun Hs1 H1 e1 e2 i => by
  obtain ⟨h1, h2⟩ := h Hs1 H1 e1 e2 i
  rw [enumD_at]
  refine ⟨fun d hd => ?_, fun hn => h2 (by simpa using hn)⟩
  obtain ⟨d0, q0, rfl⟩ := Option.map_eq_some_iff.mp hd
  obtain ⟨g1, g2⟩ := h1 d0 q0
  refine ⟨g1, fun x H2 ⟨T, y, ex, hT, eH, yl⟩ => ?_⟩
  subst ex; subst eH
  obtain ⟨Hs2, gr, rp⟩ := g2 y H1 yl
  have nw := Gr.new (o := .tup [.int (i : Nat), y]) gr.i hT
  exact ⟨_, gr.trans nw, .tup (StT.of upd_same) (.cons (.int _) (.cons (rp.ex nw.s) .nil))⟩
/-- a datum and how it is walked -/
theorem src_of {K : Frag} {Hs H : Hp} {v : V} {d : D} {ds : List D} (r : Rp K Hs v d) (h : dItems d = some ds) (e : Ex Hs H) : ∃ J, SrcV K H v J ∧ Dn.ItOk K Hs J ds ∧ Still J := by
  cases r with
  | lst q t =>
    obtain rfl := Option.some.inj h
    exact ⟨_, .inr (.inl ⟨_, _, rfl, sqL_ex e q, rfl⟩), it_list q t, still_lst⟩
  | tup q t =>
    obtain rfl := Option.some.inj h
    exact ⟨_, .inl ⟨_, _, rfl, sqT_ex e q, rfl⟩, it_tup q t, still_tup⟩
  | str z =>
    obtain rfl := Option.some.inj h
    exact ⟨_, .inr (.inr ⟨z, rfl, rfl⟩), it_str, still_str⟩
  | _ => simp [dItems] at h
section
variable {X : Cx} {E : XQ} {tg e : Expr} {pos : Pos} {m : M D}
def mEnum (m : M D) : M (List D) := mBind m fun d => mOpt ((dItems d).map enumD)
theorem ji_enum {p tpos : Pos} {elts : List Expr} {kk : Nat} (hg : Gl X "enumerate") (hm : X.mg "enumerate" = none) (h : PE X e (tOf X.K E m)) (hs : starEach [e] X.env = [(false, eval e X.env)] := by rfl) :
    PI X (.Tuple elts kk tpos) (.Call (.Name "enumerate" p) [e] [] pos) (tOfI X.K E (mEnum m)) :=
  pi_imp (pi_enS hg hm (pa_cons h pa_nil hs) hs) fun σ H R ⟨G, g, δ, re, po⟩ => tOf.step re po fun v d g1 H1 δ1 e1 re1 r1 po1 => by
    obtain ⟨ds, hd, po2⟩ := Post.opt po1
    obtain ⟨ds0, h0, rfl⟩ := Option.map_eq_some_iff.mp hd
    obtain ⟨J, hv, ok, _⟩ := src_of r1 h0 re1.ex
    exact ⟨v, J, rfl, hv, Post.of po2 re1 _ (.of (it_enum ok))⟩
def mZip (ma mb : M D) : M (List D) := mBind ma fun d => mBind mb fun e => mOpt ((dItems d).bind fun ds => (dItems e).map (zipD ds))
/-- lo, lo + c, .. -/
def stepD (lo c : Int) (n : Nat) : List D := (List.range n).map fun (k : Nat) => PyData.int (lo + (k : Nat) * c)
theorem it_step {K : Frag} {Hs : Hp} {lo c : Int} {n : Nat} : Dn.ItOk K Hs (Itc lo c n) (stepD lo c n) := fun Hs1 H1 e1 e2 i => by
  unfold stepD
  rw [List.getElem?_map]
  by_cases hi : i < n
  · rw [List.getElem?_range hi]
    refine ⟨fun d hd => ?_, fun hn => (nomatch hn)⟩
    obtain rfl := Option.some.inj hd
    refine ⟨hi, fun x H2 ⟨hH, hx⟩ => ?_⟩
    subst hH; subst hx
    exact ⟨Hs1, .refl e2, .int _⟩
  · rw [List.getElem?_eq_none (by simp; omega)]
    exact ⟨fun d hd => (nomatch hd), fun _ => Nat.not_lt.mp hi⟩
def okStep (i j c : Int) : Bool := decide (c ≠ 0) && (decide (c.natAbs < 1073741824) && (Builtin.Range.small i j c && decide (0 ≤ Builtin.Range.rangeSize i j c)))
def bRng3 : D → D → D → Option (List D)
  | .int i, .int j, .int c => if okStep i j c = true then some (stepD i c (Builtin.Range.rangeSize i j c).toNat) else none
  | _, _, _ => none
def mRng3 (ma mb mc : M D) : M (List D) := mBind ma fun d => mBind mb fun e => mBind mc fun c => mOpt (bRng3 d e c)
theorem ji_range3 {a b c : Expr} {p : Pos} {ma mb mc : M D} (hg : Gl X "range") (hm : X.mg "range" = none) (ha : PE X a (tOf X.K E ma)) (hb : PE X b (tOf X.K E mb)) (hc : PE X c (tOf X.K E mc))
    (hs : starEach [a, b, c] X.env = [(false, eval a X.env), (false, eval b X.env), (false, eval c X.env)] := by rfl) (hs2 : starEach [b, c] X.env = [(false, eval b X.env), (false, eval c X.env)] := by rfl) (hs3 : starEach [c] X.env = [(false, eval c X.env)] := by rfl) :
    PI X tg (.Call (.Name "range" p) [a, b, c] [] pos) (tOfI X.K E (mRng3 ma mb mc)) :=
  pi_imp (pi_range3 hg hm (pa_cons ha (pa_cons hb (pa_cons hc pa_nil hs3) (by rw [hs2, hs3])) (by rw [hs, hs2])) (by rw [hs, hs2]) (by rw [hs2]; rfl)) fun σ H R ⟨G, g, δ, re, po⟩ => tOf.step re po fun v d g1 H1 δ1 e1 re1 r1 po1 => tOf.step re1 po1 fun w c g2 H2 δ2 e2 re2 r2 po2 => tOf.step re2 po2 fun y k g3 H3 δ3 e3 re3 r3 po3 => by
    obtain ⟨ds, hd, po4⟩ := Post.opt po3
    cases r1 with
    | int i =>
      cases r2 with
      | int j =>
        cases r3 with
        | int l =>
          simp only [bRng3, Option.ite_none_right_eq_some, Option.some.injEq] at hd
          obtain ⟨h1, hd⟩ := hd
          subst hd
          unfold okStep at h1
          rw [Bool.and_eq_true, Bool.and_eq_true, Bool.and_eq_true] at h1
          obtain ⟨k1, k2, k3, k4⟩ := h1
          have k4 := of_decide_eq_true k4
          exact ⟨i, j, l, _, rfl, ⟨of_decide_eq_true k1, of_decide_eq_true k2, k3, (Int.toNat_of_nonneg k4).symm⟩, Post.of po4 re3 _ (.of it_step)⟩
        | _ => simp [bRng3] at hd
      | _ => cases r3 <;> simp [bRng3] at hd
    | _ => cases r2 <;> cases r3 <;> simp [bRng3] at hd
end
end Ds
namespace Ds
open PySem PySem.Spec PyProof.Rows L2 Dn
inductive KVs (K : Frag) : List DictEntry → List (Str × D) → Prop where
  | nil : KVs K [] []
  | cons {e : DictEntry} {r : List DictEntry} {x : Str} {t : Tok} {v : V} {d : D} {kvs : List (Str × D)} : e.key = .str x t → RelV v e.val → (∀ H, Rp K H v d) → KVs K r kvs → KVs K (e :: r) ((x, d) :: kvs)
def KDv (w : World) (K : Frag) (d : Addr) (kvs : List (Str × D)) : Prop := ∃ es n, KDict K w d es n ∧ KVs K es.toList kvs
def lookS (kvs : List (Str × D)) (z : Str) : Option D := (kvs.find? fun kv => decide (kv.1 = z)).map (·.2)
theorem KVs.find {K : Frag} {es : List DictEntry} {kvs : List (Str × D)} (h : KVs K es kvs) {z : Str} {d : D} (q : lookS kvs z = some d) : ∃ e v, es.find? (·.key.isStr z) = some e ∧ RelV v e.val ∧ ∀ H, Rp K H v d := by
  induction h with
  | nil => cases q
  | @cons e r x t v d0 kvs he hv hr _ ih =>
    have k1 : e.key.isStr z = (x == z) := by rw [he]; rfl
    unfold lookS at q ih
    rw [List.find?_cons] at q ⊢
    by_cases hx : x = z
    · rw [decide_eq_true hx] at q
      obtain rfl : d0 = d := Option.some.inj q
      rw [k1, hx, beq_self_eq_true]
      exact ⟨e, v, rfl, hv, hr⟩
    · rw [decide_eq_false hx] at q
      have : (x == z) = false := by simpa using hx
      rw [k1, this]
      exact ih q
theorem KDv.at_ {w : World} {K : Frag} {a : Addr} {kvs : List (Str × D)} (h : KDv w K a kvs) {z : Str} {d : D} (q : lookS kvs z = some d) : ∃ v, KDct K w a z v ∧ ∀ H, Rp K H v d := by
  obtain ⟨es, n, D, k⟩ := h
  obtain ⟨e, v, h1, h2, h3⟩ := k.find q
  refine ⟨v, ⟨es, n, e.val, D.at_, D.lit, ?_, h2⟩, h3⟩
  unfold PySem.W.nsIn
  rw [D.at_]
  dsimp only
  rw [h1]
section
variable {X : Cx} {E : XQ} {e o : Expr} {pos : Pos} {m : M D} {ml : M Nat}
def mKGet (kvs : List (Str × D)) (m : M D) : M D := mBind m fun e => mOpt ((toS e).bind (lookS kvs))
def keysS : List (Key × Cl) → Option (List Str)
  | [] => some []
  | (.inr x, _) :: r => (keysS r).map (x :: ·)
  | _ => none
def mSortD (ml : M Nat) : M D := mBind ml fun l δ => match δ.s[l]? with
  | some (.dk kvs) => (match keysS kvs with
    | some ks => if ks.length < 64 then .ok (.list ((sortT ks).map PyData.str)) δ else .bad
    | none => .bad)
  | _ => .bad
end
end Ds
namespace Ds
open PySem PySem.Spec PyProof.Rows L2 Dn
def isTI : List Key → Bool
  | .inr _ :: .inl _ :: _ => true
  | _ => false
def toKs : List D → Option (List Key)
  | [] => some []
  | d :: ds => match toK d, toKs ds with
    | some k, some ks => some (k :: ks)
    | _, _ => none
def toTK : D → Option (List Key)
  | .tuple ds => match toKs ds with
    | some ks => if isTI ks then some ks else none
    | none => none
  | _ => none
def keyD : Key → D
  | .inl i => .int i
  | .inr x => .str x
/-- a dict with tuple keys, locked or not -/
def dtOf : Ob → Option (List (List Key × Cl))
  | .dt kvs => some kvs
  | .ft kvs => some kvs
  | _ => none
def tkAt (s : List Ob) (l : Nat) : Option (List (List Key × Cl)) := (s[l]?).bind dtOf
section
variable {X : Cx} {E : XQ} {a b e o f : Expr} {pos : Pos} {m mk mx : M D} {mc : M Cl} {ml : M Nat} {m1 m2 : M Fl}
/-- d[k] -/
def mTGet (ml : M Nat) (mk : M D) : M Cl := mBind ml fun l => mBind mk fun e δ => match tkAt δ.s l, toTK e with
  | some kvs, some k => match valC kvs k with
    | some c => .ok c δ
    | none => .bad
  | _, _ => .bad
def isDt (l : Nat) : M Nat := fun δ => match tkAt δ.s l with
  | some _ => .ok l δ
  | _ => .bad
/-- d.get(k, x) -/
def mTGet2 (ml : M Nat) (mk : M D) (mc : M Cl) : M Cl := mBind ml fun l => mBind (isDt l) fun l => mBind mk fun e => mBind mc fun z δ => match tkAt δ.s l, toTK e with
  | some kvs, some k => .ok ((valC kvs k).getD z) δ
  | _, _ => .bad
/-- d[k] = x -/
def mTPut (ml : M Nat) (mk : M D) (mc : M Cl) : M Fl := mBind mc fun c => mBind ml fun l => mBind mk fun e δ => match δ.s[l]?, toTK e with
  | some (.dt kvs), some k => if kvs.length < sizeLine then .ok .nx ⟨δ.e, δ.s.set l (.dt (putC kvs k c))⟩ else .bad
  | _, _ => .bad
/-- k in d, k not in d -/
def mTIn (neg : Bool) (mk : M D) (ml : M Nat) : M D := mBind mk fun e => mBind ml fun l δ => match tkAt δ.s l, toTK e with
  | some kvs, some k => .ok (.bool (if neg then !(valC kvs k).isSome else (valC kvs k).isSome)) δ
  | _, _ => .bad
/-- {} -/
def mTNew : M Nat := mAll (.dt [])
end
end Ds
namespace Ds
open PySem PySem.Spec PyProof.Rows L2 Dn
theorem clsA_of {K : Frag} {c : Str} {C : Addr} (h : PySem.W.nsIn K mainGlobals c = some (some (.ref C))) : clsA K c = some C := by
  unfold clsA
  rw [h]
def putFC (f : Str) (c : Cl) : List (Str × Cl) → List (Str × Cl)
  | [] => [(f, c)]
  | (g, x) :: r => if g = f then (g, c) :: r else (g, x) :: putFC f c r
section
variable {X : Cx} {E : XQ} {a b e o : Expr} {pos : Pos} {mc : M Cl} {ml : M Nat} {c f : Str} {C : Addr}
/-- o.f -/
def mFld (c : Str) (ml : M Nat) (f : Str) : M Cl := mBind ml fun l δ => match δ.s[l]? with
  | some (.ins c' fs) => if c' = c then (match fs.lookup f with
    | some x => .ok x δ
    | none => .bad) else .bad
  | _ => .bad
/-- o.f = e -/
def mSetF (c : Str) (ml : M Nat) (f : Str) (mc : M Cl) : M Fl := mBind mc fun x => mBind ml fun l δ => match δ.s[l]? with
  | some (.ins c' fs) => if c' = c ∧ fs.length < 1000 then .ok .nx ⟨δ.e, δ.s.set l (.ins c (putFC f x fs))⟩ else .bad
  | _ => .bad
theorem evA_len : ∀ (as : List (M Cl)) (δ : Sx) (cs : List Cl) (δ' : Sx), evA as δ = .ok cs δ' → cs.length = as.length := fun as => by
  induction as with
  | nil => intro δ cs δ' h; cases h; rfl
  | cons m as ih =>
    intro δ cs δ' h
    unfold evA mBind at h
    cases q : m δ with
    | ok c δ1 =>
      rw [q] at h
      dsimp only at h
      cases q2 : evA as δ1 with
      | ok cs2 δ2 =>
        rw [q2] at h
        have h : Res.ok (c :: cs2) δ2 = Res.ok cs δ' := h
        injection h with h1 h2
        subst h1
        rw [List.length_cons, List.length_cons, ih _ _ _ q2]
      | exc y δ2 => rw [q2] at h; cases h
      | bad => rw [q2] at h; cases h
    | exc y δ1 => rw [q] at h; cases h
    | bad => rw [q] at h; cases h
/-- o.m(..) -/
def isIns (c m : Str) (l : Nat) : M Nat := fun δ => match δ.s[l]? with
  | some (.ins c' fs) => if c' = c ∧ fs.lookup m = none then .ok l δ else .bad
  | _ => .bad
def mMeth (c m : Str) (F : Fn) (ml : M Nat) (as : List (M Cl)) : M Cl := mBind ml fun l => mBind (isIns c m l) fun l => mBind (evA as) fun cs δ => match F (.lo l :: cs) δ.s with
  | .ok x s' => .ok x ⟨δ.e, s'⟩
  | .exc y s' => .bad
  | .bad => .bad
variable {F : Fn} {as : List (M Cl)} {k n : Nat} {fa : Addr} {fd : FuncData} {pr : List Str} {x m : Str} {es : List Expr} {p apos : Pos} {E0 : XK}
/-- C(..) -/
def mMake (c : Str) (F : Fn) (as : List (M Cl)) : M Nat := mBind (evA as) fun cs δ => match F (.lo δ.s.length :: cs) (δ.s ++ [.ins c []]) with
  | .ok (.sh .none) s' => .ok δ.s.length ⟨δ.e, s'⟩
  | _ => .bad
end
end Ds
namespace Ds
open PySem PySem.Spec PyProof.Rows L2 Dn
section
variable {K : Frag} {G : Hp} {g : Gh} {H : Hp} {σ : L2.St} {δ : Sx}
/-- the keys of a locked dict -/
def keysD (kvs : List (List Key × Cl)) : List D := kvs.map fun kv => .tuple (kv.1.map keyD)
end
section
variable {X : Cx} {E : XQ} {tg e : Expr} {pos : Pos} {ml p : M Nat}
def mKeysT (ml : M Nat) : M (List D) := mBind ml fun l δ => match δ.s[l]? with
  | some (.ft kvs) => .ok (keysD kvs) δ
  | _ => .bad
/-- while the dict at p is locked -/
def mLock {α : Type} (p : M Nat) (m : M α) : M α := fun δ => match p δ with
  | .ok l _ => (match δ.s[l]? with
    | some (.dt kvs) => (match m ⟨δ.e, δ.s.set l (.ft kvs)⟩ with
      | .ok x δ' => (match δ'.s[l]? with
        | some (.ft kvs') => .ok x ⟨δ'.e, δ'.s.set l (.dt kvs')⟩
        | _ => .bad)
      | _ => .bad)
    | _ => .bad)
  | _ => .bad
end
end Ds
namespace Ds
open PySem PySem.Spec PyProof.Rows L2 Dn
def tup1 : D → Bool
  | .tuple (_ :: _) => true
  | _ => false
def oth : D → Bool
  | .none => false
  | .tuple _ => false
  | _ => true
def sortB (ds : List D) : Bool := (ds.all fun d => ds.all fun e => PySem.W.alike d e) && (ds.all tup1 || ds.all oth) && (ds.all fun d => decide (d.depth ≤ 8)) && decide (ds.length ≤ sizeLine)
def sortD (ds : List D) : List D := ds.mergeSort (PySem.W.dataLe false id)
section
variable {X : Cx} {E : XQ} {o : Expr} {pos p : Pos} {ml : M Nat} {m : M D}
/-- sorted of data -/
def mSortL (m : M D) : M D := mBind m fun d => mOpt (match d with
  | .list ds => if sortB ds then some (.list (sortD ds)) else none
  | _ => none)
/-- sorted of a dict with tuple keys -/
def mSortDT (ml : M Nat) : M D := mBind ml fun l δ => match tkAt δ.s l with
  | some kvs => if sortB (keysD kvs) then .ok (.list (sortD (keysD kvs))) δ else .bad
  | none => .bad
end
end Ds
namespace Ds
open PySem PySem.Spec PyProof.Rows L2 Dn
def mBad {α : Type} : M α := fun _ => .bad
section
variable {X : Cx} {E : XQ} {a b : Expr} {pos p p' : Pos} {ma mb : M D}
theorem js_bad {st : Stmt} : PS X st (tOfS X.K E mBad) := ⟨fun pins s σ H D I h => by
  obtain ⟨G, g, δ, re, po⟩ := h
  exact po.elim⟩
def mListR1 (m : M D) : M D := mBind m fun d => mOpt (match d with
  | .int j => if inLine j = true ∧ (j - 0).toNat ≤ 16777216 then some (.list (rngD 0 (j - 0).toNat)) else none
  | _ => none)
end
end Ds
namespace HT
open PySem PyProof.Rows PySem.W
theorem adjust_rev (n : Nat) : Builtin.Slice.sliceAdjust none none (-1) (n : Int) = ((n : Int) - 1, -1) := by
  have h1 : ((-1 : Int) < 0) := by omega
  unfold Builtin.Slice.sliceAdjust
  simp only [h1, if_true]
theorem places_rev (n : Nat) : Builtin.Slice.slicePlaces ((n : Int) - 1) (-1) (-1) = n := by
  unfold Builtin.Slice.slicePlaces
  have h1 : ¬ ((-1 : Int) > 0) := by omega
  simp only [h1, if_false]
  by_cases h : (n : Int) - 1 > -1
  · have e : ((n : Int) - 1 - -1 - 1) / (- -1) = (n : Int) - 1 := by
      rw [show (- -1 : Int) = 1 by decide, Int.ediv_one]
      omega
    simp only [h, if_true, e]
    omega
  · simp only [h, if_false]
    omega
theorem pick_rev (xs : Array Value) : ((List.range xs.size).filterMap fun (m : Nat) => xs[(((xs.size : Int) - 1) + (m : Int) * (-1)).toNat]?).toArray = xs.toList.reverse.toArray := by
  have e : ((List.range xs.size).filterMap fun (m : Nat) => xs[(((xs.size : Int) - 1) + (m : Int) * (-1)).toNat]?) = ((List.range xs.size).map (fun k => xs.size - 1 - k)).filterMap (xs[·]?) := by
    rw [List.filterMap_map]
    congr 1
    funext m
    have : (((xs.size : Int) - 1) + (m : Int) * (-1)).toNat = xs.size - 1 - m := by omega
    simp only [this, Function.comp]
  rw [e, krv_range, List.filterMap_reverse, krv_all]
section
variable {prog : Program} {w : World} {A : Around} {E : Value → Shared → Prop} {s : Shared}
theorem sliceApplied_rev {sl : Addr} {vs : Value} {n : Nat} {Q : Int × Int × Nat → Shared → Prop} (hs : s.heap.IsSliceOf sl .none .none vs) (ps : IsPart vs (some (-1)))
    (h : Q ((n : Int) - 1, -1, n) s) : wpAny (model prog w) A (Builtin.Slice.sliceApplied (.ref sl) (pure (n : Int))) Q E s := by
  obtain ⟨os, hos, hcs, hds⟩ := id hs
  unfold Builtin.Slice.sliceApplied Builtin.Slice.sliceFields
  refine wpAny_bind (wpAny_bind (wpAny_field hos hds (x := .none) rfl (wpAny_bind (wpAny_field hos hds (x := .none) rfl (wpAny_bind (wpAny_field hos hds (x := vs) rfl (wpAny_pure ?_)))))))
  refine wpAny_bind (slicePart_ ps ?_)
  show wpAny _ _ (if ((-1 : Int) == 0) = true then _ else _) _ _ s
  rw [if_neg (by decide)]
  refine wpAny_bind (slicePart_none (wpAny_bind (slicePart_none (wpAny_bind (wpAny_pure ?_)))))
  show wpAny _ _ (match Builtin.Slice.sliceAdjust none none (-1) (n : Int) with | (lo, hi) => pure (lo, (-1 : Int), Builtin.Slice.slicePlaces lo hi (-1))) _ _ s
  rw [adjust_rev n]
  show wpAny _ _ (pure ((n : Int) - 1, (-1 : Int), Builtin.Slice.slicePlaces ((n : Int) - 1) (-1) (-1))) _ _ s
  rw [places_rev]
  exact wpAny_pure h
theorem getItem_tuple_rev {t sl : Addr} {items : Array Value} {vs : Value} {Q : Value → Shared → Prop} (ht : IsTup s.heap t items) (hs : s.heap.IsSliceOf sl .none .none vs) (ps : IsPart vs (some (-1)))
    (h : Q (.ref s.heap.objs.size) { s with heap := s.heap.push { cls := .type "tuple", data := .seq items.toList.reverse.toArray } })
    (hsz : items.size ≤ sizeLine) : wpAny (model prog w) A (getItem (.ref t) (.ref sl)) Q E s := by
  have htake : sizeOk (.seq items.toList.reverse.toArray) := by
    show items.toList.reverse.toArray.size ≤ sizeLine
    rw [List.size_toArray, List.length_reverse, Array.length_toList]
    omega
  obtain ⟨os, hos, hcs, hds⟩ := id hs
  have hTs : s.TypeIs (.ref sl) "slice" := ⟨os, hos, hcs⟩
  unfold getItem
  try with_reducible refine wpAny_holding ?_
  first | refine wpAny_bind (wpAny_pure ?_) | skip
  refine wpAny_bind (wpAny_sequenceKey ht.typeIs (by decide) ?_)
  refine wpAny_bind (wpAny_callSpecial?_slot (name := Str.ofString "__getitem__") ht.typeIs PyProof.Rows.slot_tuple_getitem
    (wpAny_call_entry PyProof.Rows.slot_tuple_getitem ht.typeIs entry_tuple_getitem ?_ (args_tuple_getitem _ _)))
  show wpAny _ _ (Builtin.Tuple.tupleItemsOf (.ref t) >>= _) _ _ s
  refine wpAny_bind (tupleItemsOf_ ht ?_)
  refine wpAny_bind (wpAny_typeOf hTs ?_)
  rw [if_pos (by decide)]
  refine wpAny_bind (sliceApplied_rev hs ps ?_)
  have hno : ¬ (((((items.size : Nat) : Int) - 1) == 0 && (-1 : Int) == 1 && items.size == items.size) = true) := by
    intro q
    rw [Bool.and_eq_true, Bool.and_eq_true] at q
    exact absurd q.1.2 (by decide)
  show wpAny _ _ (if ((((items.size : Nat) : Int) - 1) == 0 && (-1 : Int) == 1 && items.size == items.size) = true then _ else _) _ _ s
  rw [if_neg hno, pick_rev]
  first
    | exact wpAny_bind (m := Builtin.Tuple.tupleExact _) (wpAny_newObj_type (wpAny_pure ⟨_, rfl, wpAny_pure h⟩) htake)
    | exact wpAny_bind (m := Builtin.Tuple.tupleExact _) (wpAny_newObj_type (wpAny_bind (wpAny_pure (wpAny_pure ⟨_, rfl, wpAny_pure h⟩))) htake)
    | exact wpAny_bind (wpAny_bind (m := Builtin.Tuple.tupleExact _) (wpAny_newObj_type (wpAny_pure (wpAny_pure ⟨_, rfl, wpAny_pure h⟩)) htake))
    | exact wpAny_bind (wpAny_bind (m := Builtin.Tuple.tupleExact _) (wpAny_newObj_type (wpAny_pure ⟨_, rfl, wpAny_pure h⟩) htake))
end
end HT
namespace Ds
open PySem PySem.Spec PyProof.Rows L2 Dn
def rRev (K : Frag) : V → Hp → VK → Prop := fun x H Q => ∃ a xs, x = .ref a ∧ ((SqT K H a xs ∧ ∀ p, H p = none → Q (.ref p) (upd H p (.tup xs.reverse))) ∨ (SqL K H a xs ∧ ∀ p, H p = none → Q (.ref p) (upd H p (.lst xs.reverse))))
def tRev (K : Frag) (te : TE) : TE := fun σ H Q => te σ H fun x H1 => rRev K x H1 Q
section
variable {X : Cx} {e : Expr} {te : TE} {k : Nat} {p1 p2 p3 pos : Pos}
theorem pe_rev (he : PE X e te) : PE X (.Subscript e (.Slice none none (some (.UnaryOp .USub (.Constant (.int 1) k p1) p2)) p3) pos) (tRev X.K te) := by
  refine ⟨fun pins s σ H Q I h => ?_⟩
  refine Subscript_ (thn (he.run pins s σ H _ I h) fun v s1 ⟨x, H1, I1, r1, q1⟩ => ?_)
  obtain ⟨a, xs, ex, hx⟩ := q1
  subst ex
  cases r1
  have hst : PO X (some (.UnaryOp .USub (.Constant (.int 1) k p1) p2)) (tPart (tUn (rU fun i => .int (-i)) (tC (.int 1)))) := po_some (pe_un un_neg pe_int)
  refine wpAny_Slice (thn (po_none.run pins s1 σ H1 (fun o H2 => o = none ∧ H2 = H1) I1 ⟨rfl, rfl⟩) fun vl s2 ⟨l, H2, I2, pl, el, e2⟩ => ?_)
  subst el e2
  refine thn (po_none.run pins s2 σ H2 (fun o H3 => o = none ∧ H3 = H2) I2 ⟨rfl, rfl⟩) fun vu s3 ⟨u, H3, I3, pu, eu, e3⟩ => ?_
  subst eu e3
  refine thn (hst.run pins s3 σ H3 (fun o H4 => o = some (-1) ∧ H4 = H3) I3 ⟨1, rfl, -1, rfl, rfl, rfl⟩) fun vs s4 ⟨o, H4, I4, ps, eo, e4⟩ => ?_
  subst eo e4
  have I5 : Inv X pins σ H4 { s4 with heap := s4.heap.push { cls := .type "slice", data := .fields #[vl, vu, vs] } } := I4.kept (t' := s4.toks) fun b ob q => Heap.get?_push_of_some _ q
  show wpAny (model X.prog X.w) X.A (subscriptTail e (.Slice none none (some (.UnaryOp .USub (.Constant (.int 1) k p1) p2)) p3) (.ref a) (.ref s4.heap.objs.size)) (EP X pins σ Q) X.xe { s4 with heap := s4.heap.push { cls := .type "slice", data := .fields #[vl, vu, vs] } }
  rcases hx with ⟨hx, q⟩ | ⟨hx, q⟩
  · obtain ⟨its, r, ht, hz⟩ := I5.tuple hx
    have hlen := r.length
    cases pl
    cases pu
    refine tail_any (ops := [.ref a, .ref s4.heap.objs.size]) ht.typeIs (PyProof.Rows.slot_tuple_getitem.lookup) ?_ (by with_unfolding_all rfl)
    refine HT.getItem_tuple_rev ht (Heap.IsSliceOf.new _ _ _ vs) ps ?_ (by rw [List.size_toArray]; omega)
    refine ⟨.ref _, _, I5.laid (t' := s4.toks) (o := .tup xs.reverse) (fun b ob q => Heap.get?_push_of_some _ q) (Nat.le_refl _) ?_, rfl, q _ (I5.hok.fresh (Nat.le_refl _))⟩
    exact ⟨by rw [List.length_reverse]; exact hz, _, r.reverse, IsTup.new _ _⟩
  · obtain ⟨its, r, ht, hz⟩ := I5.list hx
    have hlen := r.length
    refine tail_any (ops := [.ref a, .ref s4.heap.objs.size]) ht.isList.typeIs (PySem.slot_list_getitem.lookup) ?_ (by with_unfolding_all rfl)
    refine wpAny_getItem_list_slice ht.isList (Heap.IsSliceOf.new _ vl vu vs) pl pu ps (by decide) ?_ (by rw [List.size_toArray]; omega)
    rw [PySem.W.krv_pick]
    refine ⟨.ref _, _, I5.laid (t' := s4.toks) (o := .lst xs.reverse) (fun b ob q => Heap.get?_push_of_some _ q) (Nat.le_refl _) ?_, rfl, q _ (I5.hok.fresh (Nat.le_refl _))⟩
    exact ⟨by rw [List.length_reverse]; exact hz, _, 0, r.reverse, Heap.get?_push_size _ rfl⟩
end
def dRev : D → Option D
  | .tuple xs => some (.tuple xs.reverse)
  | .list xs => some (.list xs.reverse)
  | _ => none
def mRev (m : M D) : M D := mBind m fun d => mOpt (dRev d)
theorem rps_rev {K : Frag} {H : Hp} : ∀ {vs : List V} {ds : List D}, Rps K H vs ds → Rps K H vs.reverse ds.reverse
  | _, _, .nil => .nil
  | _, _, .cons r t => by
    rw [List.reverse_cons, List.reverse_cons]
    exact (rps_rev t).append (.cons r .nil)
section
variable {X : Cx} {E : XQ} {e : Expr} {m : M D} {mc : M Cl} {k : Nat} {p1 p2 p3 pos : Pos}
theorem revS {K : Frag} {Hs H : Hp} {x : V} {d c : D} {Q : VK} (ex : Ex Hs H) (rx : Rp K Hs x d) (hg : dRev d = some c) (k : ∀ v Hs' H', Gr Hs H Hs' H' → Rp K Hs' v c → Q v H') : rRev K x H Q := by
  cases rx with
  | tup h t =>
    obtain rfl := Option.some.inj hg
    exact ⟨_, _, rfl, .inl ⟨sqT_ex ex h, fun p hp => k _ _ _ (Gr.new ex hp) (.tup (StT.of upd_same) ((rps_rev t).ex (Gr.new ex hp).s))⟩⟩
  | lst h t =>
    obtain rfl := Option.some.inj hg
    exact ⟨_, _, rfl, .inr ⟨sqL_ex ex h, fun p hp => k _ _ _ (Gr.new ex hp) (.lst (SqL.of upd_same) ((rps_rev t).ex (Gr.new ex hp).s))⟩⟩
  | _ => simp [dRev] at hg
theorem je_rev (he : PE X e (tOf X.K E m)) : PE X (.Subscript e (.Slice none none (some (.UnaryOp .USub (.Constant (.int 1) k p1) p2)) p3) pos) (tOf X.K E (mRev m)) :=
  pe_imp (pe_rev he) fun σ H Q ⟨G, g, δ, re, po⟩ => by
    refine tOf.step re po fun x d g1 H1 δ1 e1 re1 r1 po1 => ?_
    obtain ⟨c, hc, po4⟩ := Post.opt po1
    exact revS re1.ex r1 hc fun v Hs' H' w rv => Post.grow po4 re1 (Grw.of w) v rv
variable {o : Expr} {ml : M Nat} {mk : M D}
end
end Ds
namespace L2
open PySem PySem.Spec PyProof.Rows
theorem tuple_mul1 (l : Addr) (items : Array Value) (n : Nat) (dd : Option Addr) (sl : Array (Option Value)) (u : Tok) :
    Meets (Builtin.«tuple.__mul__» ⟨[.ref l, .int 1 u], []⟩) (fun _ R s => s.heap.get? l = some { cls := .type "tuple", dict := dd, data := .seq items n, slots := sl } ∧
      R (.ok (.ret (Value.ref l))) s) :=
  .of_wp fun prog w A R s h => by
    obtain ⟨hp, g, d, tk, os⟩ := s
    obtain ⟨hl, h⟩ := h
    have f1 := AutoSeq1.idx_int
    wp_walk using wpAny_loadPart' hl
    repeat (first
      | (refine wpAny_ite_false (decide_eq_false (by decide)) ?_; wp_walk using wpAny_loadPart' hl)
      | (refine wpAny_ite_true (by simp) ?_; wp_walk using wpAny_loadPart' hl))
    exact ⟨_, rfl, h⟩
theorem tuple_mul0 (l : Addr) (items : Array Value) (n : Nat) (dd : Option Addr) (sl : Array (Option Value)) (u : Tok) (c1 : items.isEmpty = false) :
    Meets (Builtin.«tuple.__mul__» ⟨[.ref l, .int 0 u], []⟩) (fun _ R s => s.heap.get? l = some { cls := .type "tuple", dict := dd, data := .seq items n, slots := sl } ∧
      R (.ok (.ret (Value.ref s.heap.objs.size))) { s with heap := s.heap.push { cls := Value.type "tuple", data := Data.seq #[] }, toks := s.toks }) :=
  .of_wp fun prog w A R s h => by
    obtain ⟨hp, g, d, tk, os⟩ := s
    obtain ⟨hl, h⟩ := h
    have f1 := AutoSeq1.idx_int
    wp_walk using wpAny_loadPart' hl
    repeat (first
      | (refine wpAny_ite_false (decide_eq_false (by decide)) ?_; wp_walk using wpAny_loadPart' hl)
      | (refine wpAny_ite_false (decide_eq_false (by rw [c1]; exact Bool.false_ne_true)) ?_; wp_walk using wpAny_loadPart' hl)
      | (refine wpAny_ite_true (by simp) ?_; wp_walk using wpAny_loadPart' hl)
      | (refine wpAny_ite_false (decide_eq_false (by simp [sizeLine_eq])) ?_; wp_walk using wpAny_loadPart' hl))
    exact ⟨_, rfl, h⟩
/-- xs * n: n is 0 or 1 -/
def rRepO (K : PySem.W.Frag) : R2 := fun x y H Q => ∃ l xs, x = .ref l ∧ SqT K H l xs ∧ xs ≠ [] ∧ ((y = .int 1 ∧ Q (.ref l) H) ∨ (y = .int 0 ∧ ∀ p, H p = none → Q (.ref p) (upd H p (.tup []))))
section
variable {X : Cx}
theorem op_repO : OpR X (binaryOp .Mult) (rRepO X.K) := by
  intro pins s σ H x y v u Q I rx ry h
  obtain ⟨l, xs, rfl, hT, hne, h⟩ := h
  cases rx
  obtain ⟨its, r, ⟨⟨cls, dd, data, sl⟩, ho, hc, n, hd⟩, hs⟩ := I.tuple hT
  simp only at hc hd
  subst hc hd
  have hle : its.length = xs.length := r.length.symm
  have hn : its ≠ [] := fun e => hne (by
    rw [e] at hle
    exact List.eq_nil_of_length_eq_zero hle.symm)
  have hi : its.toArray.isEmpty = false := by
    cases its with
    | nil => exact absurd rfl hn
    | cons a b => rfl
  rcases h with ⟨rfl, q⟩ | ⟨rfl, q⟩
  · obtain ⟨t, rfl⟩ := ry
    refine wpAny_binaryOp_repeat_ref (T := "tuple") (U := "int") (by decide) ⟨_, ho, rfl⟩ (fun s' => typeIs_int s' 1 t) noFill_tuple_mul F.fills_int_mul F.slot_int_rmul repeat_tuple F.slot_int_index.lookup
      (call_meets F.slot_int_rmul (typeIs_int s 1 t) F.entry_int_rmul (F.args_int_rmul_2 _ _) (int_rmul_tuple 1 t l its.toArray n dd sl)
        ⟨ho, rfl, ⟨_, ho, rfl⟩, call_meets F.slot_tuple_mul ⟨_, ho, rfl⟩ F.entry_tuple_mul (F.args_tuple_mul_2 _ _) (tuple_mul1 l its.toArray n dd sl t) ⟨ho, ?_⟩⟩)
    exact ⟨.ref l, H, I, rfl, q⟩
  · obtain ⟨t, rfl⟩ := ry
    refine wpAny_binaryOp_repeat_ref (T := "tuple") (U := "int") (by decide) ⟨_, ho, rfl⟩ (fun s' => typeIs_int s' 0 t) noFill_tuple_mul F.fills_int_mul F.slot_int_rmul repeat_tuple F.slot_int_index.lookup
      (call_meets F.slot_int_rmul (typeIs_int s 0 t) F.entry_int_rmul (F.args_int_rmul_2 _ _) (int_rmul_tuple 0 t l its.toArray n dd sl)
        ⟨ho, rfl, ⟨_, ho, rfl⟩, call_meets F.slot_tuple_mul ⟨_, ho, rfl⟩ F.entry_tuple_mul (F.args_tuple_mul_2 _ _) (tuple_mul0 l its.toArray n dd sl t hi) ⟨ho, ?_⟩⟩)
    refine ⟨.ref s.heap.objs.size, _, I.laid (t' := s.toks) (o := .tup []) (fun b ob q => Heap.get?_push_of_some _ q) (Nat.le_refl _) ?_, rfl, q _ (I.hok.fresh (Nat.le_refl _))⟩
    exact ⟨Nat.zero_le _, [], .nil, IsTup.new _ _⟩
end
end L2
namespace Ds
open PySem PySem.Spec PyProof.Rows L2 Dn
def dMulO : D → D → Option D
  | .tuple ds, .int k => if ds ≠ [] ∧ k = 1 then some (.tuple ds) else if ds ≠ [] ∧ k = 0 then some (.tuple []) else none
  | _, _ => none
theorem os_mulO {K : Frag} : OpS K (rRepO K) dMulO := fun Hs H x y d e c Q ex rx ry hg k => by
  cases rx with
  | @tup a xs ds h t =>
    cases ry with
    | int i =>
      have ne : ∀ (w : ds ≠ []), xs ≠ [] := fun w z => by
        subst z
        cases t
        exact w rfl
      simp only [dMulO] at hg
      split at hg
      · rename_i w
        obtain ⟨w, rfl⟩ := w
        cases hg
        exact ⟨_, xs, rfl, sqT_ex ex h, ne w, .inl ⟨rfl, k _ _ _ (Gr.refl ex) (.tup h t)⟩⟩
      · split at hg
        · rename_i w
          obtain ⟨w, rfl⟩ := w
          cases hg
          exact ⟨_, xs, rfl, sqT_ex ex h, ne w, .inr ⟨rfl, fun p hp => k _ _ _ (Gr.new ex hp) (.tup (StT.of upd_same) .nil)⟩⟩
        · cases hg
    | _ => simp [dMulO] at hg
  | _ => cases ry <;> simp [dMulO] at hg
end Ds
namespace Ds
open PySem PySem.Spec PyProof.Rows L2 Dn
theorem KVs.none {K : Frag} {es : List DictEntry} {kvs : List (Str × D)} (h : KVs K es kvs) {z : Str} (q : lookS kvs z = none) : es.find? (·.key.isStr z) = none := by
  induction h with
  | nil => rfl
  | @cons e r x t v d0 kvs he hv hr _ ih =>
    have k1 : e.key.isStr z = (x == z) := by rw [he]; rfl
    unfold lookS at q ih
    rw [List.find?_cons] at q ⊢
    by_cases hx : x = z
    · rw [decide_eq_true hx] at q
      cases q
    · rw [decide_eq_false hx] at q
      have : (x == z) = false := by simpa using hx
      rw [k1, this]
      exact ih q
section
variable {X : Cx} {E : XQ} {e f o : Expr} {pos apos cpos : Pos} {m mz : M D} {ml : M Nat}
/-- o.f += n, o.f -= n -/
def mAugF (c : Str) (ml : M Nat) (f : Str) (F : Int → Int → Int) (k : Int) : M Fl := mBind ml fun l δ => match δ.s[l]? with
  | some (.ins c' fs) => if c' = c ∧ fs.length < 1000 then (match fs.lookup f with
    | some (.sh (.int i)) => .ok .nx ⟨δ.e, δ.s.set l (.ins c (putFC f (.sh (.int (F i k))) fs))⟩
    | _ => .bad) else .bad
  | _ => .bad
end
end Ds
namespace Ds
open PySem PySem.Spec PyProof.Rows L2 Dn
/-- what an exception is as data: its class, by the class's name -/
def XD (num : Option Int) (d : Option Addr) (H : Hp) : Prop := match num with
  | none => d = none
  | some n => ∃ (dx : Addr) (fs : List (Str × V)), d = some dx ∧ H dx = some (.xd fs) ∧ fs.lookup ("number" : Str) = some (V.int n)
def XR (K : Frag) (y : Exn) (cls : Value) (d : Option Addr) (H : Hp) : Prop := ∃ C, clsA K y.cls = some C ∧ cls = .ref C ∧ XD y.num d H
def wX (K : Frag) (E : XQ) : WX := fun cls d σ H => ∃ y, XR K y cls d H ∧ E y σ H
def xqOf (K : Frag) (E0 : XK) : XQ := fun y _ H => ∀ cls d, XR K y cls d H → E0 cls d H
def xqW (K : Frag) (W : WX) : XQ := fun y σ H => ∀ cls d, XR K y cls d H → W cls d σ H
theorem wX_of {K : Frag} {E0 : XK} {cls : Value} {d : Option Addr} {σ : L2.St} {H : Hp} (h : wX K (xqOf K E0) cls d σ H) : E0 cls d H := by
  obtain ⟨y, h1, h2⟩ := h
  exact h2 _ _ h1
theorem wX_W {K : Frag} {W : WX} {cls : Value} {d : Option Addr} {σ : L2.St} {H : Hp} (h : wX K (xqW K W) cls d σ H) : W cls d σ H := by
  obtain ⟨y, h1, h2⟩ := h
  exact h2 _ _ h1
/-- a def that may raise -/
def spX (K : Frag) (n : Nat) (F : Fn) : Sp := fun vs H Q E => vs.length = n ∧ ∃ (G : Hp) (g : Gh) (as : List Cl) (s : List Ob), RE K G g H [] ⟨[], s⟩ ∧ All2 (CR K g) vs as ∧
  match F as s with
  | .ok c s' => ∀ g' H', Le g g' → RE K G g' H' [] ⟨[], s'⟩ → ∀ v, CR K g' v c → Q v H'
  | .exc x s' => ∀ g' H', Le g g' → RE K G g' H' [] ⟨[], s'⟩ → ∀ cls d, XR K x cls d H' → E cls d H'
  | .bad => False
section
variable {P : Program} {w : World} {K : Frag} {mg : Str → Option Value} {base : Heap}
theorem fnX_J {x qual : Str} {st : Stmt} {f : Addr} {fd : FuncData} {N pr : List Str} {k n nN : Nat} {mb : M Fl} (F : Fun K x qual st f fd) (S : FnScope N pr (defScope st)) (hn : pr.length = n) (hN : N.length = nN) (hle : n ≤ nN)
    (hbody : ∀ (cdv : Value) (A : Around) (outer : List PySem.Env) (s : Shared) (H : Hp) (E : XK), Room k (A.deeper (envOfC qual (defScope st) s.heap.objs.size f cdv)) →
      Takes (cxOf (L2.CX P w) P w K mg base N qual (defScope st) f cdv A outer s H E) (wX K (xqOf K E)) →
      PassesOwn (model P w) (cxOf (L2.CX P w) P w K mg base N qual (defScope st) f cdv A outer s H E).A (cxOf (L2.CX P w) P w K mg base N qual (defScope st) f cdv A outer s H E).env (cxOf (L2.CX P w) P w K mg base N qual (defScope st) f cdv A outer s H E).xe →
      PSs (cxOf (L2.CX P w) P w K mg base N qual (defScope st) f cdv A outer s H E) (defBody st) (tOfS K (xqOf K E) mb)) : FnOk P w K mg base (L2.CX P w) (k + 1) f fd pr (spX K n (fnF n nN mb)) := by
  refine F.okX S (fun vs H Q E h => by rw [h.1, hn]) fun cdv A outer s H vs Q E hr h => ⟨_, hbody cdv A outer s H E hr ((takes_of rfl rfl rfl rfl).imp fun c d σ H h => wX_of h) (passes_of rfl), ?_⟩
  obtain ⟨hl, G, g, as, st0, re, t, po⟩ := h
  have hst : L2.start N vs = vs.map some ++ List.replicate (nN - n) none := by unfold L2.start; rw [hN, hl]
  refine ⟨G, g, ⟨as ++ List.replicate (nN - n) .no, st0⟩, by rw [hst]; exact re.start t _, ?_⟩
  have hal : as.length = n := by rw [← t.length, hl]
  unfold fnF at po
  rw [if_pos hal] at po
  have grl : g.r.length = st0.length := re.rl
  have fin : ∀ {c : Cl} {δ' : Sx} {σ' : L2.St} {g' : Gh} {H' : Hp} {v : V}, (∀ g' H', Le g g' → RE K G g' H' [] ⟨[], trim st0.length c δ'.s⟩ → ∀ v, CR K g' v c → Q v H') → Le g g' → RE K G g' H' σ' δ' → CR K g' v c → Q v H' := fun {c δ' σ' g' H' v} k e r hc => by
    have hn' : st0.length ≤ δ'.s.length := by
      rw [← r.rl, ← grl]
      by_cases h0 : g.r.length = 0
      · omega
      · have := (List.getElem?_eq_some_iff.mp (e.r (g.r.length - 1) _ (List.getElem?_eq_getElem (by omega)))).1
        omega
    obtain ⟨g2, a1, a2, a3, a4⟩ := RE.trim (δ := δ') (n := st0.length) r.bare hn' hc
    refine k g2 H' ⟨fun l a h => a2 l a ?_ (e.r l a h), by rw [a1]; exact e.h⟩ a3 v a4
    have := (List.getElem?_eq_some_iff.mp h).1
    omega
  cases q : mb ⟨as ++ List.replicate (nN - n) .no, st0⟩ with
  | ok fl δ' =>
    rw [q] at po
    cases fl with
    | nx => exact fun σ' g' H' e r => fin po e r (.sh .non)
    | rt c => exact fun σ' g' H' e r v rv => fin po e r rv
    | bk => exact po.elim
    | ct => exact po.elim
  | exc x δ' =>
    rw [q] at po
    exact fun σ' g' H' e r cls d xr => po g' H' e r.bare cls d xr
  | bad => rw [q] at po; exact po.elim
end
section
variable {X : Cx} {E : XQ} {E0 : XK} {F : Fn} {as : List (M Cl)} {k n : Nat} {f C : Addr} {fd : FuncData} {pr : List Str} {x m c : Str} {e o : Expr} {es : List Expr} {p p2 pos pos' apos : Pos} {j : Nat}
def mRaise (x : Str) : M Fl := fun δ => .exc ⟨x, none⟩ δ
theorem js_raiseG {bmB : List Value} {B newId initId : String} (F : ExcBaseFacts B newId initId bmB) (q : PySem.W.excIn X.K C bmB newId = true) (hcl : clsA X.K x = some C) (kC : PySem.W.keepIn X.K (.ref C) = true) (r : Raises X (.ref C)) (hc : X.calm = true) (tk : Takes X (wX X.K E)) (gC : X.mg x = some (.ref C)) (hg : Gl X x)
    (hdb : (x == ("__debug__" : Str)) = false := by decide) : PS X (.Raise (some (.Call (.Name x p) [.Constant (.str m) j p2] [] pos)) none pos') (tOfS X.K E (mRaise x)) :=
  pst_imp (ps_raise hc tk (pmk_own F q gC kC r hg hdb)) fun B σ H ⟨G, g, δ, re, po⟩ => ⟨⟨x, none⟩, ⟨C, hcl, rfl, show (none : Option Addr) = none from rfl⟩, po σ g H (Le.refl _) re⟩
def mCallX (F : Fn) (as : List (M Cl)) : M Cl := mBind (evA as) fun cs δ => match F cs δ.s with
  | .ok c s' => .ok c ⟨δ.e, s'⟩
  | .exc x s' => .exc x ⟨δ.e, s'⟩
  | .bad => .bad
theorem callX_spec {G : Hp} {g : Gh} {H : Hp} {σ : L2.St} {δ : Sx} {cs : List Cl} {vs : List V} {Q : VK} (hn : cs.length = n) (re : RE X.K G g H σ δ) (r1 : All2 (CR X.K g) vs cs) (po : Post X.K E G g σ (match F cs δ.s with
  | .ok c s' => .ok c ⟨δ.e, s'⟩
  | .exc x s' => .exc x ⟨δ.e, s'⟩
  | .bad => (.bad : Res Cl)) fun c g' H' _ => ∀ v, CR X.K g' v c → Q v H') : spX X.K n F vs H Q (WE (wX X.K E) σ) := by
  refine ⟨by rw [r1.length, hn], G, g, cs, δ.s, re.bare, r1, ?_⟩
  cases q : F cs δ.s with
  | ok c s' =>
    rw [q] at po
    exact fun g' H' e r v rv => po g' H' e (re.lift e r) v rv
  | exc y s' =>
    rw [q] at po
    exact fun g' H' e r cls d xr => ⟨y, xr, po g' H' e (re.lift e r)⟩
  | bad => rw [q] at po; exact po.elim
theorem callX_read (hn : as.length = n) {σ : L2.St} {H : Hp} {Q : VK} (h : tOfC X.K E (mCallX F as) σ H Q) : tOfA X.K E (evA as) σ H fun vs H1 => spX X.K n F vs H1 Q (WE (wX X.K E) σ) := by
  obtain ⟨G, g, δ, re, po⟩ := h
  unfold mCallX at po
  have po' := po
  unfold mBind at po'
  cases qa : evA as δ with
  | ok cs0 δ0 =>
    have hl := evA_len _ _ _ _ qa
    rw [qa] at po'
    refine ⟨G, g, δ, re, ?_⟩
    rw [qa]
    intro g1 H1 e1 re1 vs r1
    exact callX_spec (by rw [hl, hn]) re1 r1 (Post.ex po' e1)
  | exc y δ0 =>
    rw [qa] at po'
    refine ⟨G, g, δ, re, ?_⟩
    rw [qa]
    exact po'
  | bad => rw [qa] at po'; exact po'.elim
theorem jc_callX (tk : Takes X (wX X.K E)) (G : FnOk X.prog X.w X.K X.mg X.base (L2.CX X.prog X.w) k f fd pr (spX X.K n F)) (hn : as.length = n) (hr : Room k X.A) (hg : Gl X x) (hm : X.mg x = some (.ref f)) (hk : PySem.W.keepIn X.K (.ref f) = true) (hb : Binds X.K fd pr []) (ha : PA X (e :: es) (tOfA X.K E (evA as)))
    (hdb : (x == ("__debug__" : Str)) = false := by decide) (he : starEach (e :: es) X.env = (false, eval e X.env) :: starEach es X.env := by rfl) (hpl : (backTo pos (starEach es X.env)).any (·.1) = false := by rfl) : PE X (.Call (.Name x p) (e :: es) [] pos) (tOfC X.K E (mCallX F as)) :=
  pe_imp (pe_callS G hr hg hm hk hb (fun σ => passAt tk σ) ha hdb he hpl) fun _ _ _ h => callX_read hn h
/-- o.m(..), m may raise: where the wish is the def's own -/
def mMethX (c m : Str) (F : Fn) (ml : M Nat) (as : List (M Cl)) : M Cl := mBind ml fun l => mBind (isIns c m l) fun l => mBind (evA as) fun cs δ => match F (.lo l :: cs) δ.s with
  | .ok x s' => .ok x ⟨δ.e, s'⟩
  | .exc y s' => .exc y ⟨δ.e, s'⟩
  | .bad => .bad
def xs (K : Frag) (E0 : XK) : XK := fun cls d H => ∃ y, XR K y cls d H ∧ ∀ cls d, XR K y cls d H → E0 cls d H
variable {fa : Addr} {ml : M Nat}
end
end Ds
namespace Ds
open PySem PySem.Spec PyProof.Rows L2 Dn
theorem XD.ex {num : Option Int} {d : Option Addr} {H H' : Hp} (e : Ex H H') (h : XD num d H) : XD num d H' := by
  cases num with
  | none => exact h
  | some n =>
    obtain ⟨dx, fs, h1, h2, h3⟩ := h
    exact ⟨dx, fs, h1, e _ _ h2, h3⟩
/-- in an except suite: slot i holds the exception a that was caught, its dict d stands -/
def CfK {α : Type} (K : Frag) (i : Nat) (a : Addr) (num : Option Int) (d : Option Addr) (m : M α) (σ : L2.St) (H : Hp) (Q : Hp → α → Gh → Hp → Sx → Prop) : Prop :=
  σ[i]? = some (some (.ref a)) ∧ ∃ (G : Hp) (g : Gh) (δ : Sx), RE K G g H σ δ ∧ XD num d g.h ∧ Post K noX G g σ (m δ) (Q G)
def tKD (K : Frag) (i : Nat) (a : Addr) (num : Option Int) (d : Option Addr) (m : M D) : TE := fun σ H Q => CfK K i a num d m σ H fun _ x g' H' _ => ∀ v, Rp K g'.h v x → Q v H'
def tKC (K : Frag) (i : Nat) (a : Addr) (num : Option Int) (d : Option Addr) (m : M Cl) : TE := fun σ H Q => CfK K i a num d m σ H fun _ c g' H' _ => ∀ v, CR K g' v c → Q v H'
def Bk (i : Nat) (a : Addr) (B : Ends) : Ends := { nx := fun σ H => σ[i]? = some (some (.ref a)) → B.nx σ H, rt := B.rt, bk := fun σ H => σ[i]? = some (some (.ref a)) → B.bk σ H, ct := fun σ H => σ[i]? = some (some (.ref a)) → B.ct σ H }
/-- statements of an except suite -/
def tKS (K : Frag) (i : Nat) (a : Addr) (num : Option Int) (d : Option Addr) (m : M Fl) : TS := fun B σ H => σ[i]? = some (some (.ref a)) ∧ ∃ (G : Hp) (g : Gh) (δ : Sx), RE K G g H σ δ ∧ XD num d g.h ∧ PostF K noX G g (m δ) (Bk i a B)
section
variable {X : Cx} {i j : Nat} {a : Addr} {num : Option Int} {d : Option Addr} {e b c : Expr} {es : List Expr} {st : Stmt} {rest : List Stmt} {pos : Pos} {m ma mb : M D} {mc : M Cl} {m1 m2 : M Fl} {t1 t2 : M Bool} {K : Frag} {G : Hp} {g : Gh} {H : Hp} {σ : L2.St} {δ : Sx}
theorem CfK.step {α β : Type} {ma : M α} {f : α → M β} {QQ : β → Gh → Hp → Sx → Prop} {R : Hp → α → Gh → Hp → Sx → Prop} (hs : σ[i]? = some (some (.ref a))) (re : RE K G g H σ δ) (xd : XD num d g.h) (po : Post K noX G g σ (mBind ma f δ) QQ)
    (k : ∀ x g1 H1 δ1, Le g g1 → RE K G g1 H1 σ δ1 → XD num d g1.h → Post K noX G g1 σ (f x δ1) QQ → R G x g1 H1 δ1) : CfK K i a num d ma σ H R := by
  refine ⟨hs, G, g, δ, re, xd, ?_⟩
  unfold mBind at po
  cases h : ma δ with
  | ok x δ1 =>
    rw [h] at po
    exact fun g' H' e r => k x g' H' δ1 e r (xd.ex e.h) (Post.ex po e)
  | exc x δ1 =>
    rw [h] at po
    exact po
  | bad =>
    rw [h] at po
    exact po
theorem CfK.stepS {α : Type} {ma : M α} {f : α → M Fl} {B : Ends} {R : Hp → α → Gh → Hp → Sx → Prop} (hs : σ[i]? = some (some (.ref a))) (re : RE K G g H σ δ) (xd : XD num d g.h) (po : PostF K noX G g (mBind ma f δ) B)
    (k : ∀ x g1 H1 δ1, Le g g1 → RE K G g1 H1 σ δ1 → XD num d g1.h → PostF K noX G g1 (f x δ1) B → R G x g1 H1 δ1) : CfK K i a num d ma σ H R := by
  refine ⟨hs, G, g, δ, re, xd, ?_⟩
  unfold mBind at po
  cases h : ma δ with
  | ok x δ1 =>
    rw [h] at po
    exact fun g' H' e r => k x g' H' δ1 e r (xd.ex e.h) (PostS.ex po e)
  | exc x δ1 =>
    rw [h] at po
    exact fun g' H' e r => po σ g' H' e r
  | bad =>
    rw [h] at po
    exact po
theorem jk_free (h : PE X e (tOf X.K noX m)) : PE X e (tKD X.K i a num d m) := pe_imp h fun _ _ _ ⟨_, G, g, δ, re, _, po⟩ => ⟨G, g, δ, re, po⟩
theorem jkc_free (h : PE X e (tOfC X.K noX mc)) : PE X e (tKC X.K i a num d mc) := pe_imp h fun _ _ _ ⟨_, G, g, δ, re, _, po⟩ => ⟨G, g, δ, re, po⟩
theorem jk_sh (h : PE X e (tKD X.K i a num d m)) : PE X e (tKC X.K i a num d (mSh m)) := pe_imp h fun σ H Q ⟨hs, G, g, δ, re, xd, po⟩ => CfK.step hs re xd po fun x g1 H1 δ1 e1 re1 xd1 po1 v r1 => Post.of po1 re1 _ (.sh r1)
theorem jks_one (h : PS X st (tKS X.K i a num d m1)) : PSs X [st] (tKS X.K i a num d m1) := pss_one h
theorem jks_cons (h : PS X st (tKS X.K i a num d m1)) (t : PSs X rest (tKS X.K i a num d m2)) : PSs X (st :: rest) (tKS X.K i a num d (mSeq m1 m2)) :=
  pss_imp (pss_cons h t) fun B σ H ⟨hs, G, g, δ, re, xd, po⟩ => by
    refine ⟨hs, G, g, δ, re, xd, ?_⟩
    unfold mSeq at po
    cases q : m1 δ with
    | ok fl δ1 =>
      rw [q] at po
      cases fl with
      | nx => exact fun σ' g' H' e r hs' => ⟨hs', G, g', δ1, r, xd.ex e.h, PostS.ex po e⟩
      | rt s => exact po
      | bk => exact po
      | ct => exact po
    | exc x δ1 =>
      rw [q] at po
      exact po
    | bad =>
      rw [q] at po
      exact po
theorem jks_set {x : Str} {pos' : Pos} (hij : j ≠ i) (hN : X.N.Nodup) (hi : X.N[j]? = some x) (hx : Loc X.env.scope x) (h : PE X e (tKC X.K i a num d mc)) (hs : swapsWith e (some (.Name x pos')) pos.line X.env = pure false := by rfl) (hf : X.fn x = true ∨ X.env.scope.names.lookup x = some .local := by first | exact .inl rfl | exact .inr rfl | assumption) :
    PS X (.Assign [.Name x pos'] e pos) (tKS X.K i a num d (mSet j mc)) :=
  pst_imp (ps_set hN hi hx h hs hf) fun B σ H ⟨hk, G, g, δ, re, xd, po⟩ => CfK.stepS hk re xd po fun c g1 H1 δ1 e1 re1 xd1 po1 v r1 => PostS.of po1 (re1.set r1) (by rw [List.getElem?_set_ne hij]; exact hk)
theorem testK {β : Type} {f : Bool → M β} {QQ : β → Gh → Hp → Sx → Prop} {R : V → Hp → Prop} (hs : σ[i]? = some (some (.ref a))) (re : RE K G g H σ δ) (xd : XD num d g.h) (po : Post K noX G g σ (mBind (mTest m) f δ) QQ)
    (k : ∀ b g1 H1 δ1, Le g g1 → RE K G g1 H1 σ δ1 → XD num d g1.h → Post K noX G g1 σ (f b δ1) QQ → R (.bl b) H1) : tKD K i a num d m σ H R := by
  unfold mTest at po
  rw [bind_assoc] at po
  refine CfK.step hs re xd po fun x g1 H1 δ1 e1 re1 xd1 po1 v r1 => ?_
  cases r1 with
  | bl b => exact k b g1 H1 δ1 e1 re1 xd1 po1
  | _ => exact po1.elim
theorem jk_and (h : PE X e (tKD X.K i a num d ma)) (h2 : PE X (.BoolOp .And (b :: es) pos) (tKD X.K i a num d mb)) : PE X (.BoolOp .And (e :: b :: es) pos) (tKD X.K i a num d (mAndV ma mb)) :=
  pe_imp (pe_and h h2) fun σ H Q ⟨hs, G, g, δ, re, xd, po⟩ => testK hs re xd po fun b g1 H1 δ1 e1 re1 xd1 po1 => ⟨b, rfl, by
    cases b with
    | true => exact ⟨hs, G, g1, δ1, re1, xd1, po1⟩
    | false => exact Post.of po1 re1 _ (.bl false)⟩
theorem jk_or (h : PE X e (tKD X.K i a num d ma)) (h2 : PE X (.BoolOp .Or (b :: es) pos) (tKD X.K i a num d mb)) : PE X (.BoolOp .Or (e :: b :: es) pos) (tKD X.K i a num d (mOrV ma mb)) :=
  pe_imp (pe_or h h2) fun σ H Q ⟨hs, G, g, δ, re, xd, po⟩ => testK hs re xd po fun b g1 H1 δ1 e1 re1 xd1 po1 => ⟨b, rfl, by
    cases b with
    | true => exact Post.of po1 re1 _ (.bl true)
    | false => exact ⟨hs, G, g1, δ1, re1, xd1, po1⟩⟩
theorem jk_one {op : BoolOp} (h : PE X e (tKD X.K i a num d ma)) : PE X (.BoolOp op [e] pos) (tKD X.K i a num d ma) := pe_one h
theorem jk_not (h : PE X e (tKD X.K i a num d ma)) : PE X (.UnaryOp .Not e pos) (tKD X.K i a num d (mNotV ma)) :=
  pe_imp (pe_not h) fun σ H Q ⟨hs, G, g, δ, re, xd, po⟩ => testK hs re xd po fun b g1 H1 δ1 e1 re1 xd1 po1 => ⟨b, rfl, Post.of po1 re1 _ (.bl _)⟩
end
/-- the dict of an error that was caught is put among what never changes -/
theorem RE.freezeX {K : Frag} {G : Hp} {g : Gh} {H : Hp} {σ : L2.St} {δ : Sx} {num : Option Int} {d : Option Addr} (r : RE K G g H σ δ) (xd : XD num d H) : ∃ g', Le g g' ∧ RE K G g' H σ δ ∧ XD num d g'.h := by
  cases num with
  | none => exact ⟨g, Le.refl _, r, xd⟩
  | some n =>
    obtain ⟨dx, fs, h1, h2, h3⟩ := xd
    have gd : G dx = none := by
      cases q : G dx with
      | none => rfl
      | some o =>
        have z := (r.fg dx o q).1
        rw [h2] at z
        cases z
        exact absurd q (r.gx dx fs)
    have en : Ex g.h (upd g.h dx (.xd fs)) := fun b o q => by
      by_cases hb : b = dx
      · subst hb
        have z := r.ex b o q
        rw [h2] at z
        cases z
        exact upd_same
      · rw [upd_ne hb]; exact q
    have le : Le g ⟨g.r, upd g.h dx (.xd fs)⟩ := ⟨fun _ _ h => h, en⟩
    refine ⟨⟨g.r, upd g.h dx (.xd fs)⟩, le, ?_, dx, fs, h1, upd_same, h3⟩
    exact {
      ex := fun b o q => by
        have q : upd g.h dx (.xd fs) b = some o := q
        by_cases hb : b = dx
        · subst hb; rw [upd_same] at q; cases q; exact h2
        · rw [upd_ne hb] at q; exact r.ex b o q
      fg := fun b o q => by
        obtain ⟨f1, f2, f3⟩ := r.fg b o q
        have hb : b ≠ dx := fun z => by rw [z, gd] at q; cases q
        exact ⟨f1, by show upd g.h dx _ b = none; rw [upd_ne hb]; exact f2, f3⟩
      len := r.len
      rl := r.rl
      sl := fun i c q hc => by
        obtain ⟨v, q1, q2⟩ := r.sl i c q hc
        exact ⟨v, q1, q2.le le⟩
      ob := fun l o q hl => by
        obtain ⟨b, u, q1, q2, q3, q4⟩ := r.ob l o q hl
        have hb : b ≠ dx := fun z => by
          rw [z, h2] at q2
          cases q2
          cases q3
        exact ⟨b, u, q1, q2, q3.le le, by show upd g.h dx _ b = none; rw [upd_ne hb]; exact q4⟩
      nd := r.nd
      al := r.al
      nt := r.nt
      gx := r.gx
      fz := fun l o q hz => by
        obtain ⟨b, o', vs', f1, f2, f3⟩ := r.fz l o q hz
        exact ⟨b, o', vs', f1, en _ _ f2, f3.le le⟩ }
section
variable {X : Cx} {E : XQ} {x n : Str} {c : Value} {i : Nat} {body suite : List Stmt} {b₀ : Stmt} {np pos pos' : Pos} {mb : M Fl} {ms : Exn → M Fl} {hit : Str → Option Bool}
/-- what the suite leaves behind it -/
def endAs (i : Nat) : Res Fl → Res Fl
  | .ok fl δ => .ok fl ⟨δ.e.set i .no, δ.s⟩
  | _ => .bad
def mTryAs (i : Nat) (hit : Str → Option Bool) (mb : M Fl) (ms : Exn → M Fl) : M Fl := fun δ => match mb δ with
  | .ok fl δ' => .ok fl δ'
  | .bad => .bad
  | .exc y δ' => match hit y.cls with
    | some true => if i < δ'.e.length then endAs i (ms y ⟨δ'.e.set i .no, δ'.s⟩) else .bad
    | some false => .exc y δ'
    | none => .bad
theorem RE.hush {K : Frag} {G : Hp} {g : Gh} {H : Hp} {σ : L2.St} {δ : Sx} {o : Option V} (r : RE K G g H σ δ) (i : Nat) : RE K G g H (σ.set i o) ⟨δ.e.set i .no, δ.s⟩ :=
  r.slots (by rw [List.length_set, List.length_set]; exact r.len) fun j d q hd => by
    rcases setGet q with ⟨rfl, z⟩ | ⟨hj, z⟩
    · exact absurd z hd
    · rw [List.getElem?_set_ne (Ne.symm hj)]
      exact r.sl j d z hd
theorem js_tryAs (hs : X.stack = X.env :: X.outer) (hf : X.env.frame = some X.env.locals) (hN : X.N.Nodup) (hi : X.N[i]? = some n) (hln : X.env.kindOf n = some .local) (hc : Names X x c) (tk : Takes X (wX X.K E))
    (hh : ∀ z b C, hit z = some b → clsA X.K z = some C → PySem.W.exmOne X.K (.ref C) c = some b)
    (hb : ∀ (W : XQ) (pn : List (Addr × Obj)) (xe : Value → Shared → Prop), Takes (X.tr pn xe) (wX X.K W) → PassesOwn (model X.prog X.w) X.A X.env xe → PSs (X.tr pn xe) body (tOfS X.K W mb))
    (hsu : ∀ (y : Exn) (C a : Addr) (oe : Obj) (d : Option Addr) (pn : List (Addr × Obj)), clsA X.K y.cls = some C → (y.num = none → d = none) → Zc (.ref C) d oe → (∃ vs, oe.data = .fields vs) → PSs (X.suite a ((a, oe) :: pn)) (b₀ :: suite) (tKS X.K i a y.num d (ms y))) :
    PS X (.Try body [.ExceptHandler (some (.Name x np)) (some n) (b₀ :: suite) pos'] [] [] pos) (tOfS X.K E (mTryAs i hit mb ms)) :=
  pst_imp (ps_try_as hs hf hN hi hln hc tk (tb := fun W => tOfS X.K (xqW X.K W) mb) (ts := fun a cls d B σ H => ∃ y, XR X.K y cls d H ∧ tKS X.K i a y.num d (ms y) B σ H)
    (fun W pn xe t p => hb (xqW X.K W) pn xe (t.imp fun cls d σ H h => wX_W h) p)
    (fun a oe cls d pn hz hv => ⟨fun pins s σ H D I ⟨y, ⟨C, hC, e1, e2⟩, q⟩ => by
      subst e1
      exact (hsu y C a oe d pn hC (fun z => by unfold XD at e2; rw [z] at e2; exact e2) hz hv).run pins s σ H D I q⟩)) fun B σ H ⟨G, g, δ, re, po⟩ => by
    refine ⟨G, g, δ, re, ?_⟩
    unfold mTryAs at po
    cases q : mb δ with
    | ok fl δ1 => rw [q] at po; exact po
    | bad => rw [q] at po; exact po.elim
    | exc y δ1 =>
      rw [q] at po
      dsimp only at po
      intro σ1 g1 H1 e1 r1 cls d xr
      obtain ⟨C, hC, rfl, xd⟩ := xr
      cases hz : hit y.cls with
      | none => rw [hz] at po; exact po.elim
      | some b =>
        rw [hz] at po
        refine ⟨b, hh _ _ _ hz hC, fun hb => ?_, fun hb => ?_⟩
        · subst hb
          dsimp only at po
          intro a ha
          by_cases hlt : i < δ1.e.length
          · rw [if_pos hlt] at po
            obtain ⟨g3, e3, r3, xd3⟩ := (r1.hush (o := some (.ref a)) i).freezeX xd
            refine ⟨y, ⟨C, hC, rfl, xd⟩, List.getElem?_set_self (by rw [r1.len]; exact hlt), G, g3, _, r3, xd3, ?_⟩
            cases qs : ms y ⟨δ1.e.set i .no, δ1.s⟩ with
            | ok fl δ2 =>
              rw [qs] at po
              intro σ2 g2 H2 e2 r2
              have po2 := po (σ2.set i none) g2 H2 (e1.trans (e3.trans e2)) (r2.hush i)
              cases fl with
              | nx => exact fun _ => po2
              | bk => exact fun _ => po2
              | ct => exact fun _ => po2
              | rt c => exact po2
            | exc z δ2 => rw [qs] at po; exact po.elim
            | bad => rw [qs] at po; exact po.elim
          · rw [if_neg hlt] at po; exact po.elim
        · subst hb
          exact ⟨y, ⟨C, hC, rfl, xd⟩, po σ1 g1 H1 e1 r1⟩
end
end Ds
namespace Ds
open PySem PySem.Spec PyProof.Rows L2 Dn
/-- the instance that a suite holds -/
theorem inst_at {X : Cx} {a D : Addr} {oe : Obj} {num : Option Int} {d : Option Addr} {pn pins : List (Addr × Obj)} {σ : L2.St} {H : Hp} {s : Shared} (I : Inv (X.suite a ((a, oe) :: pn)) pins σ H s) (hz : Zc (.ref D) d oe) (hf : ∃ vs, oe.data = .fields vs) (xd : XD num d H) : ∃ od, PySem.W.InstAt s.heap a oe D od := by
  obtain ⟨hget, _⟩ := I.pin (a, oe) (List.mem_append.mpr (.inl List.mem_cons_self))
  obtain ⟨vs, hv⟩ := hf
  cases num with
  | none =>
    have hd : d = none := xd
    subst hd
    obtain ⟨oc, od, oda, osl⟩ := oe
    obtain ⟨h1, h2⟩ := hz
    dsimp only at h1 h2 hv
    subst h1 h2 hv
    exact ⟨none, hget, rfl, rfl, trivial⟩
  | some n =>
    obtain ⟨dx, fs, rfl, hd, _⟩ := xd
    obtain ⟨mA, hns, hr⟩ := (show ObjOk X.prog X.w H s.heap dx (.xd fs) from I.hok dx _ hd)
    obtain ⟨od, ho, hl⟩ := lookIn_ns hns
    exact ⟨some od, hget, hz.1, by unfold PySem.W.notCls; rw [hv] <;> rfl, by rw [hz.2]; exact ho⟩
def rIsEX (K : PySem.W.Frag) (D a : Addr) (num : Option Int) (d : Option Addr) : List V → Hp → VK → Prop := fun xs H Q => ∃ (c : V) (cv : Value) (b : Bool), xs = [.ref a, c] ∧ XD num d H ∧ ClsV c cv ∧ PySem.W.kitOne K (.ref D) cv = some b ∧ Q (.bl b) H
def rIsET (K : PySem.W.Frag) (D a : Addr) (num : Option Int) (d : Option Addr) : List V → Hp → VK → Prop := fun xs H Q => ∃ (tp : Addr) (cs : List V) (us : List Value) (b : Bool), xs = [.ref a, .ref tp] ∧ XD num d H ∧ H tp = some (.tup cs) ∧ Paired ClsV cs us ∧ PySem.W.kitAny K (.ref D) us = some b ∧ Q (.bl b) H
theorem ExcC.cl {K : Frag} {D : Addr} (C : ExcC K D) : (PySem.W.clsIn K D).isSome = true := by
  obtain ⟨cd, hc, _⟩ := PySem.W.any_some C.hd
  rw [hc]; rfl
section
variable {X : Cx} {a D : Addr} {oe : Obj} {num : Option Int} {d : Option Addr} {pn : List (Addr × Obj)}
theorem call_isEX (C : ExcC X.K D) (hz : Zc (.ref D) d oe) (hf : ∃ vs, oe.data = .fields vs) : CallR (X.suite a ((a, oe) :: pn)) (.builtin "isinstance") (rIsEX X.K D a num d) := by
  intro pins s σ H xs us Q I r h
  obtain ⟨c, cv, b, rfl, xd, k, e, q⟩ := h
  obtain ⟨u1, u2, rfl, r1, r2⟩ := vals2 r
  cases (show u1 = Value.ref a from r1)
  have e2 := k.eq r2
  subst e2
  obtain ⟨od, J⟩ := inst_at I hz hf xd
  exact PySem.W.kia_one (PySem.W.kitx_exc (ExcC.cl C) C.hg C.hk C.hs C.ha C.hn C.ht C.hm) I.kIn J e (fun z => nomatch z) fun tk => ⟨.bl b, H, I.kept (t' := tk) fun _ _ z => z, rfl, q⟩
theorem call_isET (C : ExcC X.K D) (hz : Zc (.ref D) d oe) (hf : ∃ vs, oe.data = .fields vs) : CallR (X.suite a ((a, oe) :: pn)) (.builtin "isinstance") (rIsET X.K D a num d) := by
  intro pins s σ H xs us Q I r h
  obtain ⟨tp, cs, ws, b, rfl, xd, hT, k, e, q⟩ := h
  obtain ⟨u1, u2, rfl, r1, r2⟩ := vals2 r
  cases (show u2 = Value.ref tp from r2)
  cases (show u1 = Value.ref a from r1)
  obtain ⟨_, its, rv, o, h1, h2, n, h3⟩ := (show ObjOk X.prog X.w H s.heap tp (.tup cs) from I.hok tp _ hT)
  have e3 := ClsV.all k rv
  subst e3
  obtain ⟨oc, od, dt, sl⟩ := o
  simp only at h2 h3
  subst h2 h3
  obtain ⟨od2, J⟩ := inst_at I hz hf xd
  exact PySem.W.kia_tup (PySem.W.kitx_exc (ExcC.cl C) C.hg C.hk C.hs C.ha C.hn C.ht C.hm) I.kIn J h1 e (fun z => nomatch z) fun tk => ⟨.bl b, H, I.kept (t' := tk) fun _ _ z => z, rfl, q⟩
def mIsB (o : Option Bool) : M Dn.D := mOpt (o.map PyData.bool)
variable {i : Nat} {n : Str} {p p1 p2 pos : Pos} {cv : V} {cu : Value} {ec : Expr} {es : List Expr} {t : TA} {cs : List V} {us : List Value} {o : Option Bool} {xc : Nat}
theorem jk_isE (C : ExcC X.K D) (hz : Zc (.ref D) d oe) (hf : ∃ vs, oe.data = .fields vs) (hg : Gl X "isinstance") (hm : X.mg "isinstance" = none) (hN : X.N[i]? = some n) (hv : Vis X.env.scope n) (hc : PE (X.suite a ((a, oe) :: pn)) ec (tC cv)) (hk : ClsV cv cu) (ho : ∀ b, o = some b → PySem.W.kitOne X.K (.ref D) cu = some b)
    (hd : (n == ("__debug__" : Str)) = false := by decide) (hcd : (n == ("__classdict__" : Str)) = false := by decide)
    (he : starEach [.Name n p1, ec] X.env = (false, eval (.Name n p1) X.env) :: starEach [ec] X.env := by rfl) (he2 : starEach [ec] X.env = (false, eval ec X.env) :: starEach [] X.env := by rfl) (hpl : (backTo pos (starEach [ec] X.env)).any (·.1) = false := by rfl) :
    PE (X.suite a ((a, oe) :: pn)) (.Call (.Name "isinstance" p) [.Name n p1, ec] [] pos) (tKD X.K i a num d (mIsB o)) :=
  pe_imp (pe_callB (call_isEX (num := num) C hz hf) hg hm (by decide +kernel) (pa_cons (pe_var (X := X.suite a ((a, oe) :: pn)) hN hv hd hcd) (pa_cons hc pa_nil he2) he) (by decide) (by decide) he hpl) fun σ H Q ⟨hs, G, g, δ, re, xd, po⟩ => by
    obtain ⟨c, hc2, po2⟩ := Post.opt po
    obtain ⟨b, hb, rfl⟩ := Option.map_eq_some_iff.mp hc2
    exact ⟨.ref a, hs, cv, cu, b, rfl, xd.ex re.ex, hk, ho b hb, Post.of po2 re _ (.bl b)⟩
theorem jk_isET (C : ExcC X.K D) (hz : Zc (.ref D) d oe) (hf : ∃ vs, oe.data = .fields vs) (hg : Gl X "isinstance") (hm : X.mg "isinstance" = none) (hN : X.N[i]? = some n) (hv : Vis X.env.scope n) (hc : PA (X.suite a ((a, oe) :: pn)) es t) (ht : ∀ σ H R, R cs H → t σ H R) (hcl : cs.length ≤ sizeLine) (hk : Paired ClsV cs us) (ho : ∀ b, o = some b → PySem.W.kitAny X.K (.ref D) us = some b)
    (hd : (n == ("__debug__" : Str)) = false := by decide) (hcd : (n == ("__classdict__" : Str)) = false := by decide)
    (he : starEach [.Name n p1, .Tuple es xc p2] X.env = (false, eval (.Name n p1) X.env) :: starEach [.Tuple es xc p2] X.env := by rfl) (he2 : starEach [.Tuple es xc p2] X.env = (false, eval (.Tuple es xc p2) X.env) :: starEach [] X.env := by rfl) (hpl : (backTo pos (starEach [.Tuple es xc p2] X.env)).any (·.1) = false := by rfl) :
    PE (X.suite a ((a, oe) :: pn)) (.Call (.Name "isinstance" p) [.Name n p1, .Tuple es xc p2] [] pos) (tKD X.K i a num d (mIsB o)) :=
  pe_imp (pe_callB (call_isET (num := num) C hz hf) hg hm (by decide +kernel) (pa_cons (pe_var (X := X.suite a ((a, oe) :: pn)) hN hv hd hcd) (pa_cons (pe_tup hc) pa_nil he2) he) (by decide) (by decide) he hpl) fun σ H Q ⟨hs, G, g, δ, re, xd, po⟩ => by
    obtain ⟨c, hc2, po2⟩ := Post.opt po
    obtain ⟨b, hb, rfl⟩ := Option.map_eq_some_iff.mp hc2
    refine ⟨.ref a, hs, ht σ H _ ⟨hcl, fun q hq => ?_⟩⟩
    exact ⟨q, cs, us, b, rfl, xd.ex (re.ex.trans (ex_new hq)), upd_same, hk, ho b hb, Post.grow po2 re (Grw.new re.ex hq) _ (.bl b)⟩
/-- e.number -/
def mNum (num : Option Int) : M Dn.D := mOpt (num.map PyData.int)
end
end Ds
namespace Ds
open PySem PySem.Spec PyProof.Rows L2 Dn
/-- raise C(n) -/
def mRaiseN (x : Str) (m : M D) : M Fl := mBind m fun d δ => match d with
  | .int n => .exc ⟨x, some n⟩ δ
  | _ => .bad
end Ds
namespace Ds
open PySem PySem.Spec PyProof.Rows L2 Dn
/-- nothing leaves where nothing is let out -/
theorem takesNo {X : Cx} : Takes X (wX X.K noX) := takes0.imp fun c d σ H h => by
  obtain ⟨y, _, z⟩ := h
  exact z
section
variable {X : Cx} {i : Nat} {a C Cz : Addr} {oe : Obj} {d : Option Addr} {pn : List (Addr × Obj)} {body : List Stmt} {y : Exn} {z : Str}
/-- a suite's run, class by class -/
def msIf (z : Str) (m1 : Option Int → M Fl) (m2 : Exn → M Fl) : Exn → M Fl := fun y => if y.cls = z then m1 y.num else m2 y
def msBad : Exn → M Fl := fun _ _ => .bad
theorem suite_if {m1 : Option Int → M Fl} {m2 : Exn → M Fl} (hcl : clsA X.K z = some Cz) (hC : clsA X.K y.cls = some C) (hz : Zc (.ref C) d oe) (h1 : Zc (.ref Cz) d oe → PSs (X.suite a ((a, oe) :: pn)) body (tKS X.K i a y.num d (m1 y.num))) (h2 : PSs (X.suite a ((a, oe) :: pn)) body (tKS X.K i a y.num d (m2 y))) :
    PSs (X.suite a ((a, oe) :: pn)) body (tKS X.K i a y.num d (msIf z m1 m2 y)) := by
  unfold msIf
  split
  · rename_i hy
    rw [hy, hcl] at hC
    cases hC
    exact h1 hz
  · exact h2
theorem suite_bad : PSs (X.suite a ((a, oe) :: pn)) body (tKS X.K i a y.num d (msBad y)) := ⟨fun pins s σ H D I h => by
  obtain ⟨_, _, _, _, _, _, po⟩ := h
  exact po.elim⟩
end
/-- the table of what a clause catches: the classes named -/
def hitOf (l : List (Str × Bool)) (z : Str) : Option Bool := match l with
  | [] => none
  | (x, b) :: r => if x = z then some b else hitOf r z
def hitB (K : Frag) (c : Value) (l : List (Str × Bool)) : Bool := l.all fun p => match clsA K p.1 with
  | some C => decide (PySem.W.exmOne K (.ref C) c = some p.2)
  | none => false
theorem hitB_nil {K : Frag} {c : Value} : hitB K c [] = true := rfl
theorem hitB_cons {K : Frag} {c : Value} {z : Str} {b : Bool} {r : List (Str × Bool)} {C : Addr} (h1 : clsA K z = some C) (h2 : PySem.W.exmOne K (.ref C) c = some b) (h3 : hitB K c r = true) : hitB K c ((z, b) :: r) = true := by
  unfold hitB
  rw [List.all_cons, Bool.and_eq_true]
  refine ⟨?_, h3⟩
  dsimp only
  rw [h1]
  exact decide_eq_true h2
theorem hit_ok {K : Frag} {c : Value} {l : List (Str × Bool)} (h : hitB K c l = true) : ∀ z b C, hitOf l z = some b → clsA K z = some C → PySem.W.exmOne K (.ref C) c = some b := by
  intro z b C
  induction l with
  | nil => intro h1; cases h1
  | cons p r ih =>
    obtain ⟨x, k⟩ := p
    intro h1 h2
    unfold hitB at h
    rw [List.all_cons, Bool.and_eq_true] at h
    obtain ⟨q1, q2⟩ := h
    unfold hitOf at h1
    split at h1
    · rename_i hx
      cases h1
      subst hx
      dsimp only at q1
      rw [h2] at q1
      exact of_decide_eq_true q1
    · exact ih q2 h1 h2
end Ds
namespace Dn
open PySem PySem.Spec PyProof.Rows L2
section
variable {X : Cx} {E : XQ} {ps : List Nat} {tg e elt iter : Expr} {ifs : List Expr} {pos : Pos} {vs gv : List Nat} {mi : M (List D)} {g : D → M Unit} {mt : M Bool} {me : M D}
/-- what a comprehension's block makes, read off its parts -/
theorem lc_read (hgv : ∀ i ∈ gv, i ∈ vs) (hps : ∀ i ∈ vs, i ∉ ps) {σ : L2.St} {H : Hp} {Q : VK} (h : tOfO X.K E ps (mComp mi vs g mt me) σ H Q) :
    tLc (tOfI X.K E ps mi) (gOf X.K noX ps gv g) (tOfT X.K noX ps mt) (tOf X.K noX ps me) vs σ H Q := by
  obtain ⟨W, Hs, δ, hp, re, po⟩ := h
  have hpn : ∀ i ∈ vs, i ∉ W.pn.map (·.1) := fun i hi => by rw [hp]; exact hps i hi
  refine Cf.step hp re po fun ds Hs1 H1 δ1 e1 re1 po1 J hJ C hC => ?_
  unfold compE at po1
  split at po1
  · rename_i hcond
    obtain ⟨hno', hlen⟩ := hcond
    have hno : ∀ i ∈ vs, (δ1.getD i .no).own = false := fun i hi => by
      have := List.all_eq_true.mp hno' i hi
      simpa using this
    cases hcl : compL vs g mt me ds (wipeE δ1 vs) with
    | ok ys δf =>
      rw [hcl] at po1
      have en : Ex H1 (upd H1 C (.lst [])) := ex_new hC
      have gC : W.G C = none := by
        cases q : W.G C with
        | none => rfl
        | some u => have := (re1.fg C u q).1; rw [hC] at this; cases this
      have re2 := (re1.newH en).wipe (vs := vs) hpn
      have f0 : FrO X.K W Hs1 (upd H1 C (.lst [])) (wipe σ vs) (wipeE δ1 vs) C [] := ⟨⟨[], upd_same, .nil⟩, ex_none re1.ex hC, gC, fun i s q w z => by
        obtain ⟨a, o, h1, h2, _⟩ := (re1.wipe (vs := vs) hpn).ow i s q w
        rw [h1] at z
        cases z
        rw [hC] at h2; cases h2⟩
      refine ⟨fun i m H' => m = ds.length - i ∧ i ≤ ds.length ∧ ∃ Hs2 δ2 done ys2, Ex Hs1 Hs2 ∧ RE X.K W Hs2 H' (wipe σ vs) δ2 ∧ FrO X.K W Hs2 H' (wipe σ vs) δ2 C done ∧ done.length ≤ i ∧ compL vs g mt me (ds.drop i) δ2 = .ok ys2 δf ∧ done ++ ys2 = ys,
        ⟨ds.length, rfl, Nat.zero_le _, Hs1, _, [], ys, Ex.refl _, re2, f0, Nat.le_refl _, hcl, rfl⟩, ?_⟩
      rintro i m H' ⟨hm, hi, Hs2, δ2, done, ys2, e2, re3, f3, hdl, hc3, hys⟩
      obtain ⟨j1, j2⟩ := hJ Hs2 H' e2 re3.ex i
      by_cases hlt : i < ds.length
      · have hd : ds[i]? = some ds[i] := List.getElem?_eq_getElem hlt
        obtain ⟨g1, g2⟩ := j1 _ hd
        refine .inr ⟨g1, fun H3 => ∃ Hs3 δ3 done ys2, Ex Hs1 Hs3 ∧ RE X.K W Hs3 H3 (wipe σ vs) δ3 ∧ FrO X.K W Hs3 H3 (wipe σ vs) δ3 C done ∧ done.length ≤ i + 1 ∧ compL vs g mt me (ds.drop (i + 1)) δ3 = .ok ys2 δf ∧ done ++ ys2 = ys,
          fun H3 hN => ⟨ds.length - (i + 1), by omega, rfl, hlt, hN⟩, fun x H3 y => ?_⟩
        obtain ⟨Hs3, gr, rx⟩ := g2 x H3 y
        obtain ⟨acc, ha, hr⟩ := f3.at_
        have re4 := re3.grow gr
        have f4 : FrO X.K W Hs3 H3 (wipe σ vs) δ2 C done := ⟨⟨acc, gr.h C _ ha, hr.ex gr.s⟩, by rw [gr.f C (by rw [ha]; simp)]; exact f3.hs, f3.g, f3.ne⟩
        have re5 := re4.hide f4 (gr.h C _ ha)
        rw [List.drop_eq_getElem_cons hlt] at hc3
        unfold compL at hc3
        have hp' : ({ W with G := upd W.G C (.lst acc) } : Wd).pn.map (·.1) = ps := hp
        refine ⟨{ W with G := upd W.G C (.lst acc) }, Hs3, δ2, ds[i], hp', re5, rx, ?_⟩
        cases q : g ds[i] δ2 with
        | ok u δ4 =>
          rw [q] at hc3
          refine fun σ4 Hs4 H4 e4 re6 of4 => ⟨wipe_off of4 hgv, ?_⟩
          dsimp only at hc3
          -- a turn's end: the names wiped, the list as it is then
          have turn : ∀ {Hs5 H5 : Hp} {δ5 : Env} {u : HO}, RE X.K { W with G := upd W.G C (.lst acc) } Hs5 H5 σ4 δ5 → RE X.K W Hs5 (upd H5 C u) (wipe σ vs) (wipeE δ5 vs) ∧ (∀ (i : Nat) (s : Sl), (wipeE δ5 vs)[i]? = some s → s.own = true → (wipe σ vs)[i]? ≠ some (some (V.ref C))) ∧ Hs5 C = none ∧ H5 C = some (.lst acc) := fun {Hs5 H5 δ5 u} re7 => by
            have rw7 := re7.wipe (vs := vs) hpn
            rw [wipe_off of4 hgv] at rw7
            have hf := re7.fg C (.lst acc) (by show upd W.G C _ C = _; rw [upd_same])
            exact ⟨rw7.shown f3.g, rw7.hidden, hf.2, hf.1⟩
          refine ⟨_, Hs4, δ4, hp', re6, ?_⟩
          cases zt : mt δ4 with
          | ok b δ5 =>
            rw [show mBind mt _ δ4 = _ from by unfold mBind; rw [zt]] at hc3
            dsimp only at hc3
            refine fun Hs5 H5 e5 re7 => ?_
            cases b with
            | true =>
              rw [if_pos rfl] at hc3 ⊢
              refine ⟨_, Hs5, δ5, hp', re7, ?_⟩
              cases ze : me δ5 with
              | ok yv δ6 =>
                rw [ze] at hc3
                refine fun Hs6 H6 e6 re8 v rv => ?_
                obtain ⟨t1, t2, t3, t4⟩ := turn (u := .lst (acc ++ [v])) re8
                have hal : acc.length = done.length := hr.length
                refine ⟨acc, t4, by omega, ?_⟩
                have hc4 : mBind (compL vs g mt me (ds.drop (i + 1))) (fun ys => mPure (yv :: ys)) (wipeE δ6 vs) = .ok ys2 δf := hc3
                cases zr : compL vs g mt me (ds.drop (i + 1)) (wipeE δ6 vs) with
                | ok ys3 δ7 =>
                  unfold mBind at hc4
                  rw [zr] at hc4
                  have hc5 : Res.ok (yv :: ys3) δ7 = Res.ok ys2 δf := hc4
                  injection hc5 with k1 k2
                  subst k1; subst k2
                  have e16 : Ex Hs1 Hs6 := (((e2.trans gr.s).trans e4).trans e5).trans e6
                  exact ⟨Hs6, _, done ++ [yv], ys3, e16, t1, ⟨⟨acc ++ [v], upd_same, (hr.ex (((gr.s).trans e4).trans (e5.trans e6))).snoc rv⟩, t3, f3.g, t2⟩, by simp; exact hdl, zr, by rw [← hys]; simp⟩
                | exc x δ7 => unfold mBind at hc4; rw [zr] at hc4; cases hc4
                | bad => unfold mBind at hc4; rw [zr] at hc4; cases hc4
              | exc x δ6 => rw [ze] at hc3; cases hc3
              | bad => rw [ze] at hc3; cases hc3
            | false =>
              rw [if_neg Bool.false_ne_true] at hc3 ⊢
              obtain ⟨t1, t2, t3, t4⟩ := turn (u := .lst acc) re7
              have hu : upd H5 C (.lst acc) = H5 := by
                funext b
                by_cases hb : b = C
                · subst hb; rw [upd_same, t4]
                · rw [upd_ne hb]
              rw [hu] at t1
              have hc4 : compL vs g mt me (ds.drop (i + 1)) (wipeE δ5 vs) = .ok ys2 δf := hc3
              exact ⟨Hs5, _, done, ys2, ((e2.trans gr.s).trans e4).trans e5, t1, ⟨⟨acc, t4, hr.ex ((gr.s.trans e4).trans e5)⟩, t3, f3.g, t2⟩, by omega, hc4, hys⟩
          | exc x δ5 => rw [show mBind mt _ δ4 = _ from by unfold mBind; rw [zt]] at hc3; cases hc3
          | bad => rw [show mBind mt _ δ4 = _ from by unfold mBind; rw [zt]] at hc3; cases hc3
        | exc x δ4 => rw [q] at hc3; cases hc3
        | bad => rw [q] at hc3; cases hc3
      · have ei : i = ds.length := by omega
        subst ei
        rw [List.drop_length] at hc3
        have hc4 : Res.ok ([] : List D) δ2 = Res.ok ys2 δf := hc3
        injection hc4 with k1 k2
        subst k1; subst k2
        rw [List.append_nil] at hys
        subst hys
        refine .inl ⟨j2 (List.getElem?_eq_none_iff.mpr (Nat.le_refl _)), ?_⟩
        have rb := re1.back re3 e2 hno hpn
        refine po1 Hs2 H' e2 rb C ⟨f3.at_, f3.hs, f3.g, fun i s q w => ?_⟩
        by_cases hi' : i ∈ vs
        · have z := backE_in hi' q
          rw [z, hno i hi'] at w
          cases w
        · rw [backE_out hi'] at q
          rw [← wipe_out hi']
          exact f3.ne i s q w
    | exc x δf => rw [hcl] at po1; exact po1.elim
    | bad => rw [hcl] at po1; exact po1.elim
  · exact po1.elim
theorem jts_nil : PTs X [] (tOfT X.K E ps mYes) := ⟨fun pins s σ H Q I ⟨W, Hs, δ, hp, re, po⟩ => pts_nil.run pins s σ H Q I (Post.of po re)⟩
theorem jo_comp {scope : Scope} {own : List (Str × Nat)} (hgv : ∀ i ∈ gv, i ∈ own.map (·.2)) (hps : ∀ i ∈ own.map (·.2), i ∉ ps) (hc : X.calm = true) (hN : X.N.Nodup) (hi : PI X tg iter (tOfI X.K E ps mi)) (ok : BlkOk X.N X.env.scope scope own)
    (hg : ∀ (s : Shared) (H : Hp) (C : Addr) (cl : List (Str × Addr)) (fp : List Addr), PG (X.blk s H scope (compEnvC scope cl C X.env) fp) tg (gOf X.K noX ps gv g)) (ht : ∀ (s : Shared) (H : Hp) (C : Addr) (cl : List (Str × Addr)) (fp : List Addr), PTs (X.blk s H scope (compEnvC scope cl C X.env) fp) ifs (tOfT X.K noX ps mt))
    (he : ∀ (s : Shared) (H : Hp) (C : Addr) (cl : List (Str × Addr)) (fp : List Addr), PE (X.blk s H scope (compEnvC scope cl C X.env) fp) elt (tOf X.K noX ps me)) (hs : ∀ x, foldedSetIterable iter X.env x = pure x := by intro _; rfl) :
    PE X (.ListComp elt [⟨tg, iter, ifs, 0⟩] scope pos) (tOfO X.K E ps (mComp mi (own.map (·.2)) g mt me)) :=
  pe_imp (pe_lc hc hN hi ok hg ht he hs) fun σ H Q h => lc_read hgv hps h
/-- shared data at last -/
def mFr (m : M (List D)) : M D := mBind m fun xs => mPure (.list xs)
theorem frS {m : M (List D)} {σ : L2.St} {H : Hp} {Q : VK} (h : tOf X.K E ps (mFr m) σ H Q) : tOfO X.K E ps m σ H Q := by
  obtain ⟨W, Hs, δ, hp, re, po⟩ := h
  refine Cf.step hp re po fun xs Hs1 H1 δ1 e1 re1 po1 a fa => ?_
  obtain ⟨Hs2, k1, k2, k3⟩ := re1.freeze fa
  exact po1 Hs2 H1 k1 k2 _ k3
theorem je_fr {m : M (List D)} (h : PE X e (tOfO X.K E ps m)) : PE X e (tOf X.K E ps (mFr m)) := pe_imp h fun σ H Q q => frS q
theorem js_lc {i : Nat} {y : Str} {py : Pos} {scope : Scope} {own : List (Str × Nat)} {spos : Pos} (hips : i ∉ ps) (hgv : ∀ i ∈ gv, i ∈ own.map (·.2)) (hps : ∀ i ∈ own.map (·.2), i ∉ ps) (hc : X.calm = true) (hN : X.N.Nodup) (hy : X.N[i]? = some y) (hyl : X.env.scope.names.lookup y = some .local)
    (hsw : swapsWith (.ListComp elt [⟨tg, iter, ifs, 0⟩] scope pos) (some (.Name y py)) spos.line X.env = pure true) (hi : PI X tg iter (tOfI X.K E ps mi)) (ok : BlkOk X.N X.env.scope scope own)
    (hg : ∀ (s : Shared) (H : Hp) (C : Addr) (cl : List (Str × Addr)) (fp : List Addr), PG (X.blk s H scope (compEnvC scope cl C X.env) fp) tg (gOf X.K noX ps gv g)) (ht : ∀ (s : Shared) (H : Hp) (C : Addr) (cl : List (Str × Addr)) (fp : List Addr), PTs (X.blk s H scope (compEnvC scope cl C X.env) fp) ifs (tOfT X.K noX ps mt))
    (he : ∀ (s : Shared) (H : Hp) (C : Addr) (cl : List (Str × Addr)) (fp : List Addr), PE (X.blk s H scope (compEnvC scope cl C X.env) fp) elt (tOf X.K noX ps me)) (hs : ∀ x, foldedSetIterable iter X.env x = pure x := by intro _; rfl) :
    PS X (.Assign [.Name y py] (.ListComp elt [⟨tg, iter, ifs, 0⟩] scope pos) spos) (tOfS X.K E ps (mSet i (mFr (mComp mi (own.map (·.2)) g mt me)))) :=
  pst_imp (ps_setLc hc hN hy hyl hsw hi ok hg ht he hs) fun B σ H ⟨W, Hs, δ, hp, re, po⟩ => lc_read hgv hps (by
    have po' : PostF X.K E W Hs (mBind (mComp mi (own.map (·.2)) g mt me) (fun xs => fun δ => .ok .nx (δ.set i (.sh (.list xs)))) δ) B := by
      have e : mSet i (mFr (mComp mi (own.map (·.2)) g mt me)) δ = mBind (mComp mi (own.map (·.2)) g mt me) (fun xs => fun δ => .ok .nx (δ.set i (.sh (.list xs)))) δ := by
        unfold mSet mFr mBind mPure
        cases mComp mi (own.map (·.2)) g mt me δ <;> rfl
      rw [← e]; exact po
    refine tOfO.stepS hp re po' fun a xs Hs1 H1 δ1 e1 re1 f1 po1 => ?_
    obtain ⟨Hs2, k1, k2, k3⟩ := re1.freeze f1
    exact PostS.of (PostS.ex po1 k1) (k2.setSh k3 (by rw [hp]; exact hips)))
end
end Dn
namespace Dn
open PySem PySem.Spec PyProof.Rows L2
/-- what is left of the slots behind a def: a caller's own lists -/
def outs (ps : List Nat) (n : Nat) (δ : Env) : Env := (List.range n).map fun i => if i ∈ ps then δ.getD i .no else .no
def fnF (n N : Nat) (ps : List Nat) (mb : M Fl) : Env → Res Sl := fun as => match mb (as ++ List.replicate (N - n) .no) with
  | .ok (.rt s) δ' => .ok s (outs ps n δ')
  | .ok .nx δ' => .ok (.sh .none) (outs ps n δ')
  | .exc x δ' => .exc x (outs ps n δ')
  | _ => .bad
def RetR (K : Frag) (W : Wd) (Hs H : Hp) (σ : L2.St) (δ : Env) (s : Sl) (Q : VK) : Prop := match s with
  | .sh d => ∀ v, Rp K Hs v d → Q v H
  | .ow xs => ∀ a, FrO K W Hs H σ δ a xs → Q (.ref a) H
  | .no => False
/-- what a def promises: F, upon what its parameters hold -/
def spF (K : Frag) (n : Nat) (ps : List Nat) (F : Env → Res Sl) : Sp := fun vs H Q E => vs.length = n ∧ ∃ (W : Wd) (Hs : Hp) (as : Env), W.pn.map (·.1) = ps ∧ RE K W Hs H (vs.map some) as ∧
  match F as with
  | .ok s as' => ∀ Hs' H', Ex Hs Hs' → RE K W Hs' H' (vs.map some) as' → RetR K W Hs' H' (vs.map some) as' s Q
  | .exc x as' => False
  | .bad => False
theorem outs_get {ps : List Nat} {n i : Nat} {δ : Env} {s : Sl} (h : (outs ps n δ)[i]? = some s) (hn : s ≠ .no) : i < n ∧ i ∈ ps ∧ δ[i]? = some s := by
  unfold outs at h
  rw [List.getElem?_map, Option.map_eq_some_iff] at h
  obtain ⟨j, hj, h⟩ := h
  obtain ⟨hi, hj⟩ := List.getElem?_eq_some_iff.mp hj
  rw [List.getElem_range] at hj
  subst hj
  rw [List.length_range] at hi
  by_cases hp : i ∈ ps
  · rw [if_pos hp] at h
    refine ⟨hi, hp, ?_⟩
    rw [List.getD_eq_getElem?_getD] at h
    cases w : δ[i]? with
    | none => rw [w] at h; exact absurd h.symm hn
    | some t => rw [w] at h; exact congrArg some h
  · rw [if_neg hp] at h
    exact absurd h.symm hn
section
variable {K : Frag} {W : Wd} {Hs H Hs' H' : Hp} {σ : L2.St} {δ δ' : Env} {vs : List V} {N n : Nat} {as : Env}
theorem RE.app (r : RE K W Hs H σ δ) (k : Nat) : RE K W Hs H (σ ++ List.replicate k none) (δ ++ List.replicate k .no) where
  ex := r.ex
  fg := r.fg
  len := by simp [r.len]
  sh := fun i d q => by
    by_cases hi : i < δ.length
    · rw [List.getElem?_append_left hi] at q
      rw [List.getElem?_append_left (by rw [r.len]; exact hi)]
      exact r.sh i d q
    · rw [List.getElem?_append_right (by omega), List.getElem?_replicate] at q
      split at q <;> cases q
  ow := fun i s q w => by
    by_cases hi : i < δ.length
    · rw [List.getElem?_append_left hi] at q
      rw [List.getElem?_append_left (by rw [r.len]; exact hi)]
      exact r.ow i s q w
    · rw [List.getElem?_append_right (by omega), List.getElem?_replicate] at q
      split at q
      · cases q; cases w
      · cases q
  ap := fun i j s t a h1 h2 h3 h4 h5 h6 => by
    have f : ∀ {i : Nat} {s : Sl}, (δ ++ List.replicate k Sl.no)[i]? = some s → s.own = true → i < δ.length := fun {i s} q w => by
      by_cases hi : i < δ.length
      · exact hi
      · rw [List.getElem?_append_right (by omega), List.getElem?_replicate] at q
        split at q
        · cases q; cases w
        · cases q
    have li := f h1 h2
    have lj := f h3 h4
    rw [List.getElem?_append_left li] at h1
    rw [List.getElem?_append_left lj] at h3
    rw [List.getElem?_append_left (by rw [r.len]; exact li)] at h5
    rw [List.getElem?_append_left (by rw [r.len]; exact lj)] at h6
    exact r.ap i j s t a h1 h2 h3 h4 h5 h6
  pin := fun p hp => by
    obtain ⟨h1, s, h2, h3⟩ := r.pin p hp
    have l1 := (List.getElem?_eq_some_iff.mp h1).1
    have l2 := (List.getElem?_eq_some_iff.mp h2).1
    exact ⟨by rw [List.getElem?_append_left l1]; exact h1, s, by rw [List.getElem?_append_left l2]; exact h2, h3⟩
/-- behind a def's body -/
theorem RE.outs {ps : List Nat} (r0 : RE K W Hs H (vs.map some) as) (hp : W.pn.map (·.1) = ps) (r : RE K W Hs' H' σ δ) : RE K W Hs' H' (vs.map some) (outs ps vs.length δ) := by
  have f : ∀ {i : Nat} {s : Sl}, (Dn.outs ps vs.length δ)[i]? = some s → s ≠ .no → δ[i]? = some s ∧ (vs.map some)[i]? = σ[i]? ∧ s.own = true := fun {i s} q hn => by
    obtain ⟨h1, h2, h3⟩ := outs_get q hn
    rw [← hp] at h2
    obtain ⟨p, hpm, hpe⟩ := List.mem_map.mp h2
    obtain ⟨a1, _⟩ := r0.pin p hpm
    obtain ⟨b1, s', b2, b3⟩ := r.pin p hpm
    rw [hpe] at a1 b1 b2
    rw [h3] at b2
    cases b2
    exact ⟨h3, a1.trans b1.symm, b3⟩
  exact {
    ex := r.ex
    fg := r.fg
    len := by simp [Dn.outs]
    sh := fun i d q => by
      obtain ⟨h1, h2, h3⟩ := f q (by simp)
      cases h3
    ow := fun i s q w => by
      obtain ⟨h1, h2, h3⟩ := f q (by rintro rfl; cases w)
      rw [h2]
      exact r.ow i s h1 w
    ap := fun i j s t a h1 h2 h3 h4 h5 h6 => by
      obtain ⟨a1, a2, _⟩ := f h1 (by rintro rfl; cases h2)
      obtain ⟨b1, b2, _⟩ := f h3 (by rintro rfl; cases h4)
      rw [a2] at h5
      rw [b2] at h6
      exact r.ap i j s t a a1 h2 b1 h4 h5 h6
    pin := fun p hpm => by
      obtain ⟨a1, _⟩ := r0.pin p hpm
      obtain ⟨b1, s', b2, b3⟩ := r.pin p hpm
      refine ⟨a1, s', ?_, b3⟩
      have hl : p.1 < vs.length := by
        have := (List.getElem?_eq_some_iff.mp a1).1
        simpa using this
      unfold Dn.outs
      rw [List.getElem?_map, List.getElem?_range hl]
      have hm : p.1 ∈ ps := by rw [← hp]; exact List.mem_map_of_mem hpm
      simp only [Option.map_some, if_pos hm]
      rw [List.getD_eq_getElem?_getD, b2]
      rfl }
theorem FrO.outs {ps : List Nat} {a : Addr} {xs : List D} (r0 : RE K W Hs H (vs.map some) as) (hp : W.pn.map (·.1) = ps) (r : RE K W Hs' H' σ δ) (f : FrO K W Hs' H' σ δ a xs) : FrO K W Hs' H' (vs.map some) (Dn.outs ps vs.length δ) a xs :=
  ⟨f.at_, f.hs, f.g, fun i s q w => by
    obtain ⟨h1, h2, h3⟩ := outs_get q (by rintro rfl; cases w)
    rw [← hp] at h2
    obtain ⟨p, hpm, hpe⟩ := List.mem_map.mp h2
    obtain ⟨a1, _⟩ := r0.pin p hpm
    obtain ⟨b1, _⟩ := r.pin p hpm
    rw [hpe] at a1 b1
    rw [a1, ← b1]
    exact f.ne i s h3 w⟩
end
section
variable {P : Program} {w : World} {K : Frag} {mg : Str → Option Value} {base : Heap}
/-- a def keeps its promise: by its body as a run upon data -/
theorem fn_J {x qual : Str} {st : Stmt} {f : Addr} {fd : FuncData} {N pr : List Str} {k n nN : Nat} {ps : List Nat} {mb : M Fl} (F : Fun K x qual st f fd) (S : FnScope N pr (defScope st)) (hn : pr.length = n) (hN : N.length = nN) (hle : n ≤ nN)
    (hbody : ∀ (cdv : Value) (A : Around) (outer : List PySem.Env) (s : Shared) (H : Hp) (E : XK), Room k (A.deeper (envOfC qual (defScope st) s.heap.objs.size f cdv)) →
      PSs (cxOf CX0 P w K mg base N qual (defScope st) f cdv A outer s H E).nox (defBody st) (tOfS K noX ps mb)) : FnOk P w K mg base CX0 (k + 1) f fd pr (spF K n ps (fnF n nN ps mb)) := by
  refine F.ok S (fun vs H Q E h => by rw [h.1, hn]) fun cdv A outer s H vs Q E hr h => ⟨_, hbody cdv A outer s H E hr, ?_⟩
  obtain ⟨hl, W, Hs, as, hp, re, po⟩ := h
  have hst : L2.start N vs = vs.map some ++ List.replicate (nN - n) none := by unfold L2.start; rw [hN, hl]
  refine ⟨W, Hs, as ++ List.replicate (nN - n) .no, hp, by rw [hst]; exact re.app _, ?_⟩
  unfold fnF at po
  cases q : mb (as ++ List.replicate (nN - n) .no) with
  | ok fl δ' =>
    rw [q] at po
    cases fl with
    | nx =>
      intro σ' Hs' H' e r
      have hr' := re.outs hp r
      rw [hl] at hr'
      exact po Hs' H' e hr' .non .non
    | rt sl =>
      cases sl with
      | sh d =>
        intro σ' Hs' H' e r v rv
        have hr' := re.outs hp r
        rw [hl] at hr'
        exact po Hs' H' e hr' v rv
      | ow xs =>
        intro σ' Hs' H' e r a fa
        have hr' := re.outs hp r
        have hf := FrO.outs re hp r fa
        rw [hl] at hr' hf
        exact po Hs' H' e hr' a hf
      | no =>
        intro σ' Hs' H' e r
        have hr' := re.outs hp r
        rw [hl] at hr'
        exact po Hs' H' e hr'
    | bk => exact po.elim
    | ct => exact po.elim
  | exc x δ' => rw [q] at po; exact po.elim
  | bad => rw [q] at po; exact po.elim
end
def agSl (δ : Env) : Ag → Sl
  | .sh d => .sh d
  | .ow i => δ.getD i .no
def ownAt : Nat → List Ag → List Nat
  | _, [] => []
  | k, .sh _ :: gs => ownAt (k + 1) gs
  | k, .ow _ :: gs => k :: ownAt (k + 1) gs
def ownIx : List Ag → List Nat
  | [] => []
  | .sh _ :: gs => ownIx gs
  | .ow i :: gs => i :: ownIx gs
def putBack (δ : Env) : List Ag → List Sl → Env
  | .ow i :: gs, s :: ss => (putBack δ gs ss).set i s
  | .sh _ :: gs, _ :: ss => putBack δ gs ss
  | _, _ => δ
def callF (n : Nat) (ps : List Nat) (F : Env → Res Sl) (gs : List Ag) : M Sl := fun δ =>
  if gs.length = n ∧ ownAt 0 gs = ps ∧ (ownIx gs).Nodup ∧ ((ownIx gs).all fun i => (δ.getD i .no).own) = true then
    match F (gs.map (agSl δ)) with
    | .ok s as' => .ok s (putBack δ gs as')
    | _ => .bad
  else .bad
def mCall (n : Nat) (ps : List Nat) (F : Env → Res Sl) (as : List AM) : M Sl := mBind (evA as) (callF n ps F)
end Dn
namespace Dn
open PySem PySem.Spec PyProof.Rows L2
theorem AgR.len {K : Frag} {Hs : Hp} {σ : L2.St} : ∀ {vs : List V} {gs : List Ag}, AgR K Hs σ vs gs → vs.length = gs.length
  | [], [], _ => rfl
  | [], _ :: _, h => h.elim
  | _ :: _, [], h => h.elim
  | _ :: _, .sh _ :: _, h => by rw [List.length_cons, List.length_cons, AgR.len h.2]
  | _ :: _, .ow _ :: _, h => by rw [List.length_cons, List.length_cons, AgR.len h.2]
section
variable {X : Cx} {E : XQ} {ps : List Nat} {e : Expr} {es : List Expr} {pos : Pos} {as : List AM} {k n : Nat} {f : Addr} {fd : FuncData} {pr : List Str} {qs : List Nat} {F : Env → Res Sl} {x : Str} {p : Pos}
theorem bind_assoc {α β γ : Type} (m : M α) (f : α → M β) (g : β → M γ) : mBind (mBind m f) g = mBind m fun a => mBind (f a) g := by
  funext δ
  unfold mBind
  cases m δ <;> rfl
end
end Dn
namespace Dn
open PySem PySem.Spec PyProof.Rows L2
@[irreducible] def Run {α : Type} (m : M α) (δ : Env) (Q : α → Env → Prop) : Prop := match m δ with
  | .ok a δ' => Q a δ'
  | _ => False
@[irreducible] def FRun (F : Env → Res Sl) (as : Env) (Q : Sl → Env → Prop) : Prop := match F as with
  | .ok s as' => Q s as'
  | _ => False
section
variable {α β : Type} {δ δ1 : Env} {m : M D}
theorem Run.i {m : M α} {Q : α → Env → Prop} (h : match m δ with
  | .ok a δ' => Q a δ'
  | _ => False) : Run m δ Q := by unfold Run; exact h
theorem run_pure {a : α} {Q : α → Env → Prop} (h : Q a δ) : Run (mPure a) δ Q := Run.i h
theorem Run.mono {m : M α} {Q Q' : α → Env → Prop} (h : Run m δ Q) (k : ∀ a e, Q a e → Q' a e) : Run m δ Q' := by
  unfold Run at *
  cases q : m δ with
  | ok a e => rw [q] at h; exact k a e h
  | exc x e => rw [q] at h; exact h
  | bad => rw [q] at h; exact h
theorem FRun.mono {F : Env → Res Sl} {as : Env} {Q Q' : Sl → Env → Prop} (h : FRun F as Q) (k : ∀ a e, Q a e → Q' a e) : FRun F as Q' := by
  unfold FRun at *
  cases q : F as with
  | ok a e => rw [q] at h; exact k a e h
  | exc x e => rw [q] at h; exact h
  | bad => rw [q] at h; exact h
theorem FRun.of {F : Env → Res Sl} {as as' : Env} {s : Sl} {Q : Sl → Env → Prop} (h : F as = .ok s as') (k : Q s as') : FRun F as Q := by
  unfold FRun
  rw [h]
  exact k
theorem FRun.to {F : Env → Res Sl} {as : Env} {Q : Sl → Env → Prop} (h : FRun F as Q) : ∃ s as', F as = .ok s as' ∧ Q s as' := by
  unfold FRun at h
  cases q : F as with
  | ok a e => rw [q] at h; exact ⟨a, e, rfl, h⟩
  | exc x e => rw [q] at h; exact h.elim
  | bad => rw [q] at h; exact h.elim
theorem run_bind {m : M α} {f : α → M β} {Q : β → Env → Prop} (h : Run m δ fun a e => Run (f a) e Q) : Run (mBind m f) δ Q := by
  unfold Run at *
  unfold mBind
  cases q : m δ with
  | ok a e => rw [q] at h; exact h
  | exc x e => rw [q] at h; exact h
  | bad => rw [q] at h; exact h
theorem run_opt {o : Option α} {Q : α → Env → Prop} (h : ∃ a, o = some a ∧ Q a δ) : Run (mOpt o) δ Q := by
  obtain ⟨a, h1, h2⟩ := h
  subst h1
  exact Run.i h2
theorem run_var {i : Nat} {d : D} {Q : D → Env → Prop} (h : δ[i]? = some (Sl.sh d)) (k : Q d δ) : Run (mVar i) δ Q := by
  unfold Run mVar
  rw [h]
  exact k
theorem run_c {d : D} {Q : D → Env → Prop} (k : Q d δ) : Run (mC d) δ Q := run_pure k
theorem run_own {i : Nat} {xs : List D} {Q : List D → Env → Prop} (h : δ[i]? = some (Sl.ow xs)) (k : Q xs δ) : Run (mOwn i) δ Q := by
  unfold Run mOwn
  rw [h]
  exact k
theorem run_bin {g : D → D → Option D} {ma mb : M D} {Q : D → Env → Prop} (h : Run ma δ fun d e1 => Run mb e1 fun e e2 => ∃ c, g d e = some c ∧ Q c e2) : Run (mBin g ma mb) δ Q :=
  run_bind (h.mono fun _ _ h => run_bind (h.mono fun _ _ h => run_opt h))
theorem run_test {Q : Bool → Env → Prop} (h : Run m δ fun d e => ∃ b, toB d = some b ∧ Q b e) : Run (mTest m) δ Q := run_bind (h.mono fun _ _ h => run_opt h)
theorem run_chain {g g' : D → D → Option D} {ma mb mc : M D} {Q : D → Env → Prop} (h : Run ma δ fun d e1 => Run mb e1 fun e e2 => ∃ c, g d e = some c ∧ ∃ b, toB c = some b ∧ (b = true → Run mc e2 fun f e3 => ∃ c, g' e f = some c ∧ Q c e3) ∧ (b = false → Q (.bool false) e2)) : Run (mChain g g' ma mb mc) δ Q :=
  run_bind (h.mono fun d _ h => run_bind (h.mono fun e _ ⟨c, h1, b, h2, h3, h4⟩ => run_bind (run_opt ⟨b, by rw [h1]; exact h2, by
    cases b with
    | true => exact run_bind ((h3 rfl).mono fun _ _ h => run_opt h)
    | false => exact run_pure (h4 rfl)⟩)))
theorem run_ag0 {Q : List Ag → Env → Prop} (k : Q [] δ) : Run (evA []) δ Q := Run.i k
theorem run_callB {g : List D → Option D} {as : List AM} {Q : D → Env → Prop} (h : Run (evA as) δ fun gs e => ∃ ds, shs gs = some ds ∧ ∃ c, g ds = some c ∧ Q c e) : Run (mCallB g as) δ Q :=
  run_bind (h.mono fun gs _ ⟨ds, h1, c, h2, h3⟩ => run_opt ⟨c, by rw [h1]; exact h2, h3⟩)
theorem run_isi {T : String} {Q : D → Env → Prop} (h : Run m δ fun d e => ∃ b, kitB (tyD d) T = some b ∧ Q (.bool b) e) : Run (mIsi T m) δ Q :=
  run_bind (h.mono fun d _ ⟨b, h1, h2⟩ => run_opt ⟨_, by rw [h1]; rfl, h2⟩)
theorem run_m1 {g : Str → List D → Option D} {mo : M D} {Q : D → Env → Prop} (h : Run mo δ fun d e1 => ∃ z, toS d = some z ∧ Run m e1 fun e e2 => ∃ c, g z [e] = some c ∧ Q c e2) : Run (mM1 g mo m) δ Q :=
  run_bind (h.mono fun _ _ ⟨z, h1, h2⟩ => run_bind (run_opt ⟨z, h1, run_bind (h2.mono fun _ _ h => run_opt h)⟩))
theorem run_shs {as : List AM} {Q : List D → Env → Prop} (h : Run (evA as) δ fun gs e => ∃ ds, shs gs = some ds ∧ ds.length ≤ sizeLine ∧ Q ds e) : Run (mShs as) δ Q :=
  run_bind (h.mono fun gs _ ⟨ds, h1, h2, h3⟩ => run_opt ⟨ds, by rw [h1]; simp [Option.filter, h2], h3⟩)
theorem run_tup {as : List AM} {Q : D → Env → Prop} (h : Run (evA as) δ fun gs e => ∃ ds, shs gs = some ds ∧ ds.length ≤ sizeLine ∧ Q (.tuple ds) e) : Run (mTup as) δ Q := run_bind (run_shs (h.mono fun _ _ ⟨ds, h1, h2, h3⟩ => ⟨ds, h1, h2, Run.i h3⟩))
theorem run_lst {as : List AM} {Q : D → Env → Prop} (h : Run (evA as) δ fun gs e => ∃ ds, shs gs = some ds ∧ ds.length ≤ sizeLine ∧ Q (.list ds) e) : Run (mLst as) δ Q := run_bind (run_shs (h.mono fun _ _ ⟨ds, h1, h2, h3⟩ => ⟨ds, h1, h2, Run.i h3⟩))
theorem run_ifb {b : Bool} {m1 m2 : M α} {Q : α → Env → Prop} (h1 : b = true → Run m1 δ Q) (h2 : b = false → Run m2 δ Q) : Run (if b = true then m1 else m2) δ Q := by
  cases b with
  | true => exact h1 rfl
  | false => exact h2 rfl
theorem run_andT {t1 t2 : M Bool} {Q : Bool → Env → Prop} (h : Run t1 δ fun b e => (b = true → Run t2 e Q) ∧ (b = false → Q false e)) : Run (mAndT t1 t2) δ Q := run_bind (h.mono fun b e h => run_ifb h.1 fun z => Run.i (h.2 z))
theorem run_orT {t1 t2 : M Bool} {Q : Bool → Env → Prop} (h : Run t1 δ fun b e => (b = true → Q true e) ∧ (b = false → Run t2 e Q)) : Run (mOrT t1 t2) δ Q := run_bind (h.mono fun b e h => run_ifb (fun z => Run.i (h.1 z)) h.2)
theorem run_notT {t : M Bool} {Q : Bool → Env → Prop} (h : Run t δ fun b e => Q (!b) e) : Run (mNotT t) δ Q := run_bind (h.mono fun _ _ h => Run.i h)
theorem run_andV {m1 m2 : M D} {Q : D → Env → Prop} (h : Run m1 δ fun d e => ∃ b, toB d = some b ∧ (b = true → Run m2 e Q) ∧ (b = false → Q (.bool false) e)) : Run (mAndV m1 m2) δ Q := run_bind (run_test (h.mono fun _ _ ⟨b, h1, h2, h3⟩ => ⟨b, h1, run_ifb h2 fun z => Run.i (h3 z)⟩))
theorem run_orV {m1 m2 : M D} {Q : D → Env → Prop} (h : Run m1 δ fun d e => ∃ b, toB d = some b ∧ (b = true → Q (.bool true) e) ∧ (b = false → Run m2 e Q)) : Run (mOrV m1 m2) δ Q := run_bind (run_test (h.mono fun _ _ ⟨b, h1, h2, h3⟩ => ⟨b, h1, run_ifb (fun z => Run.i (h2 z)) h3⟩))
theorem run_notV {Q : D → Env → Prop} (h : Run m δ fun d e => ∃ b, toB d = some b ∧ Q (.bool (!b)) e) : Run (mNotV m) δ Q := run_bind (run_test (h.mono fun _ _ ⟨b, h1, h2⟩ => ⟨b, h1, Run.i h2⟩))
theorem run_ifE {t : M Bool} {m1 m2 : M D} {Q : D → Env → Prop} (h : Run t δ fun b e => (b = true → Run m1 e Q) ∧ (b = false → Run m2 e Q)) : Run (mIfE t m1 m2) δ Q := run_bind (h.mono fun b e h => run_ifb h.1 h.2)
theorem run_neg {Q : D → Env → Prop} (h : Run m δ fun d e => ∃ c, dNeg d = some c ∧ Q c e) : Run (mNeg m) δ Q := run_bind (h.mono fun _ _ h => run_opt h)
theorem run_sl {ml mh : M (Option Int)} {Q : D → Env → Prop} (h : Run m δ fun d e => Run ml e fun l e1 => Run mh e1 fun u e2 => ∃ c, dSl d l u = some c ∧ Q c e2) : Run (mSl m ml mh) δ Q := run_bind (h.mono fun _ _ h => run_bind (h.mono fun _ _ h => run_bind (h.mono fun _ _ h => run_opt h)))
theorem run_part {Q : Option Int → Env → Prop} (h : Run m δ fun d e => ∃ c, toI d = some c ∧ Q c e) : Run (mPart m) δ Q := run_bind (h.mono fun _ _ h => run_opt h)
theorem run_noPart {Q : Option Int → Env → Prop} (h : Q none δ) : Run mNoPart δ Q := Run.i h
theorem run_nx {Q : Fl → Env → Prop} (h : Q .nx δ) : Run mNx δ Q := Run.i h
theorem run_seq {m1 m2 : M Fl} {Q : Fl → Env → Prop} (h : Run m1 δ fun fl e => (fl = .nx → Run m2 e Q) ∧ (fl ≠ .nx → Q fl e)) : Run (mSeq m1 m2) δ Q := by
  unfold Run at *
  unfold mSeq
  cases q : m1 δ with
  | ok fl e =>
    rw [q] at h
    cases fl with
    | nx => exact h.1 rfl
    | rt s => exact h.2 (by simp)
    | bk => exact h.2 (by simp)
    | ct => exact h.2 (by simp)
  | exc x e => rw [q] at h; exact h
  | bad => rw [q] at h; exact h
theorem run_expr {Q : Fl → Env → Prop} (h : Run m δ fun _ e => Q .nx e) : Run (mExpr m) δ Q := run_bind (h.mono fun _ _ h => Run.i h)
theorem run_ret {Q : Fl → Env → Prop} (h : Run m δ fun d e => Q (.rt (.sh d)) e) : Run (mRet m) δ Q := run_bind (h.mono fun _ _ h => Run.i h)
theorem run_ifS {t : M Bool} {m1 m2 : M Fl} {Q : Fl → Env → Prop} (h : Run t δ fun b e => (b = true → Run m1 e Q) ∧ (b = false → Run m2 e Q)) : Run (mIfS t m1 m2) δ Q := run_bind (h.mono fun b e h => run_ifb h.1 h.2)
theorem run_set {i : Nat} {Q : Fl → Env → Prop} (h : Run m δ fun d e => Q .nx (e.set i (.sh d))) : Run (mSet i m) δ Q := run_bind (h.mono fun _ _ h => Run.i h)
theorem run_setIx {k : Nat} {mi me : M D} {Q : Fl → Env → Prop} (h : Run me δ fun d e1 => ∃ xs, e1[k]? = some (Sl.ow xs) ∧ Run mi e1 fun e e2 => ∃ n, toI e = some (some n) ∧ ∃ ys, e2[k]? = some (Sl.ow ys) ∧ ∃ j, ixN ys.length n = some j ∧ Q .nx (e2.set k (.ow (ys.set j d)))) : Run (mSetIx k mi me) δ Q :=
  run_bind (h.mono fun _ _ ⟨xs, h1, h2⟩ => run_bind (run_own h1 (run_bind (h2.mono fun _ _ ⟨n, h3, ys, h4, j, h5, h6⟩ => run_bind (run_own h4 (run_bind (run_opt ⟨some n, h3, run_bind (run_opt ⟨j, h5, Run.i h6⟩)⟩)))))))
theorem run_app {k : Nat} {me : M D} {xs : List D} {Q : Fl → Env → Prop} (hx : δ[k]? = some (Sl.ow xs)) (h : Run me δ fun d e1 => ∃ ys, e1[k]? = some (Sl.ow ys) ∧ ys.length < sizeLine ∧ Q .nx (e1.set k (.ow (ys ++ [d])))) : Run (mApp k me) δ Q :=
  run_bind (run_own hx (run_bind (h.mono fun _ _ ⟨ys, h1, h2, h3⟩ => run_bind (run_own h1 (run_bind (run_opt ⟨(), if_pos h2, Run.i h3⟩))))))
theorem run_asg {g : D → M Unit} {Q : Fl → Env → Prop} (h : Run m δ fun d e => ∃ e', g d e = .ok () e' ∧ Q .nx e') : Run (mAsg g m) δ Q :=
  run_bind (h.mono fun _ _ ⟨e', h1, h2⟩ => by unfold Run; simp only [h1]; exact h2)
theorem run_iter {Q : List D → Env → Prop} (h : Run m δ fun d e => ∃ ds, dItems d = some ds ∧ Q ds e) : Run (mIter m) δ Q := run_bind (h.mono fun _ _ h => run_opt h)
theorem run_rng1 {Q : List D → Env → Prop} (h : Run m δ fun d e => ∃ ds, bRng1 d = some ds ∧ Q ds e) : Run (mRng1 m) δ Q := run_bind (h.mono fun _ _ h => run_opt h)
theorem run_rng2 {ma mb : M D} {Q : List D → Env → Prop} (h : Run ma δ fun d e1 => Run mb e1 fun e e2 => ∃ ds, bRng2 d e = some ds ∧ Q ds e2) : Run (mRng2 ma mb) δ Q := run_bind (h.mono fun _ _ h => run_bind (h.mono fun _ _ h => run_opt h))
theorem run_for {mi : M (List D)} {g : D → M Unit} {mb : M Fl} {Q : Fl → Env → Prop} (h : Run mi δ fun ds e => Run (forL g mb ds) e Q) : Run (mFor mi g mb) δ Q := run_bind h
theorem run_fr {m : M (List D)} {Q : D → Env → Prop} (h : Run m δ fun xs e => Q (.list xs) e) : Run (mFr m) δ Q := run_bind (h.mono fun _ _ h => Run.i h)
/-- a loop by what holds ahead of each turn -/
theorem run_forL {g : D → M Unit} {mb : M Fl} {Q : Fl → Env → Prop} (ds : List D) (I : Nat → Env → Prop) (h0 : I 0 δ)
    (hs : ∀ (i : Nat) (d : D) (e : Env), ds[i]? = some d → I i e → ∃ e1, g d e = .ok () e1 ∧ Run mb e1 fun fl e2 => (fl = .nx ∨ fl = .ct → I (i + 1) e2) ∧ (fl = .bk → Q .nx e2) ∧ (∀ s, fl = .rt s → Q (.rt s) e2))
    (hd : ∀ e, I ds.length e → Q .nx e) : Run (forL g mb ds) δ Q := by
  suffices H : ∀ (k i : Nat) (e : Env), i + k = ds.length → I i e → Run (forL g mb (ds.drop i)) e Q by
    have := H ds.length 0 δ (by omega) h0
    rwa [List.drop_zero] at this
  intro k
  induction k with
  | zero =>
    intro i e hi hI
    have e' : i = ds.length := by omega
    subst e'
    rw [List.drop_length]
    exact Run.i (hd e hI)
  | succ k ih =>
    intro i e hi hI
    have hlt : i < ds.length := by omega
    obtain ⟨e1, h1, h2⟩ := hs i ds[i] e (List.getElem?_eq_getElem hlt) hI
    rw [List.drop_eq_getElem_cons hlt]
    unfold Run forL
    rw [h1]
    unfold Run at h2
    dsimp only
    cases q : mb e1 with
    | ok fl e2 =>
      rw [q] at h2
      obtain ⟨a1, a2, a3⟩ := h2
      cases fl with
      | nx => have z := ih (i + 1) e2 (by omega) (a1 (.inl rfl)); unfold Run at z; exact z
      | ct => have z := ih (i + 1) e2 (by omega) (a1 (.inr rfl)); unfold Run at z; exact z
      | bk => exact a2 rfl
      | rt s => exact a3 s rfl
    | exc x e2 => rw [q] at h2; exact h2
    | bad => rw [q] at h2; exact h2
/-- a comprehension by what holds ahead of each turn: J i ys e, with the items made so far -/
theorem run_comp {mi : M (List D)} {vs : List Nat} {g : D → M Unit} {mt : M Bool} {me : M D} {Q : List D → Env → Prop}
    (h : Run mi δ fun ds e => (vs.all fun i => !(e.getD i .no).own) = true ∧ ds.length ≤ sizeLine ∧ Run (compL vs g mt me ds) (wipeE e vs) fun ys e2 => Q ys (backE e e2 vs)) : Run (mComp mi vs g mt me) δ Q :=
  run_bind (h.mono fun ds e ⟨h1, h2, h3⟩ => by
    unfold Run compE
    rw [if_pos ⟨h1, h2⟩]
    unfold Run at h3
    cases q : compL vs g mt me ds (wipeE e vs) with
    | ok ys e2 => rw [q] at h3; exact h3
    | exc x e2 => rw [q] at h3; exact h3
    | bad => rw [q] at h3; exact h3)
theorem run_compL {vs : List Nat} {g : D → M Unit} {mt : M Bool} {me : M D} (ds : List D) (J : Nat → List D → Env → Prop) {Q : List D → Env → Prop} (h0 : J 0 [] δ)
    (hs : ∀ (i : Nat) (d : D) (ys : List D) (e : Env), ds[i]? = some d → J i ys e → ∃ e1, g d e = .ok () e1 ∧ Run mt e1 fun b e2 => (b = true → Run me e2 fun y e3 => J (i + 1) (ys ++ [y]) (wipeE e3 vs)) ∧ (b = false → J (i + 1) ys (wipeE e2 vs)))
    (hd : ∀ ys e, J ds.length ys e → Q ys e) : Run (compL vs g mt me ds) δ Q := by
  suffices H : ∀ (k i : Nat) (ys : List D) (e : Env), i + k = ds.length → J i ys e → Run (compL vs g mt me (ds.drop i)) e fun zs e2 => Q (ys ++ zs) e2 by
    have := H ds.length 0 [] δ (by omega) h0
    rw [List.drop_zero] at this
    exact this.mono fun _ _ h => h
  intro k
  induction k with
  | zero =>
    intro i ys e hi hJ
    have e' : i = ds.length := by omega
    subst e'
    rw [List.drop_length]
    refine Run.i ?_
    show Q (ys ++ []) e
    rw [List.append_nil]
    exact hd ys e hJ
  | succ k ih =>
    intro i ys e hi hJ
    have hlt : i < ds.length := by omega
    obtain ⟨e1, h1, h2⟩ := hs i ds[i] ys e (List.getElem?_eq_getElem hlt) hJ
    rw [List.drop_eq_getElem_cons hlt]
    have z : Run (mBind mt (fun b => if b then mBind me (fun y => mBind (mWipe vs) fun _ => mBind (compL vs g mt me (ds.drop (i + 1))) fun ys => mPure (y :: ys)) else mBind (mWipe vs) fun _ => compL vs g mt me (ds.drop (i + 1)))) e1 fun zs e2 => Q (ys ++ zs) e2 := by
      refine run_bind (h2.mono fun b e2 h => run_ifb (fun hb => ?_) fun hb => ?_)
      · refine run_bind ((h.1 hb).mono fun y e3 hJ' => run_bind (Run.i ?_))
        show Run (mBind (compL vs g mt me (ds.drop (i + 1))) fun ys => mPure (y :: ys)) (wipeE e3 vs) _
        refine run_bind ((ih (i + 1) _ _ (by omega) hJ').mono fun zs e4 q => Run.i ?_)
        show Q (ys ++ (y :: zs)) e4
        rw [List.append_assoc] at q
        exact q
      · refine run_bind (Run.i ?_)
        show Run (compL vs g mt me (ds.drop (i + 1))) (wipeE e2 vs) _
        exact ih (i + 1) _ _ (by omega) (h.2 hb)
    unfold Run at z ⊢
    unfold compL
    rw [h1]
    exact z
/-- a def, by its body -/
theorem frun_fn {n N : Nat} {ps : List Nat} {mb : M Fl} {as : Env} {Q : Sl → Env → Prop} (h : Run mb (as ++ List.replicate (N - n) .no) fun fl e => (fl = .nx → Q (.sh .none) (outs ps n e)) ∧ (∀ s, fl = .rt s → Q s (outs ps n e)) ∧ fl ≠ .bk ∧ fl ≠ .ct) : FRun (fnF n N ps mb) as Q := by
  unfold FRun fnF
  unfold Run at h
  cases q : mb (as ++ List.replicate (N - n) .no) with
  | ok fl e =>
    rw [q] at h
    obtain ⟨h1, h2, h3, h4⟩ := h
    cases fl with
    | nx => exact h1 rfl
    | rt s => exact h2 s rfl
    | bk => exact (h3 rfl).elim
    | ct => exact (h4 rfl).elim
  | exc x e => rw [q] at h; exact h
  | bad => rw [q] at h; exact h
end
end Dn
namespace Dn
open PySem PySem.Spec PyProof.Rows L2 TL
/-- one step of a walk: what is left to show -/
class Step (p : Prop) (q : outParam Prop) : Prop where
  go : q → p
class StepS (p : Prop) (a q : outParam Prop) : Prop where
  go : a → q → p
@[reducible] def isStr : D → Bool
  | .str _ => true
  | _ => false
section
variable {Q : D → Prop} {i j : Int} {x y : Str} {xs ys : List D} {d e : D}
theorem bx_add_int (h : Q (.int (i + j))) : ∃ c, dAdd (.int i) (.int j) = some c ∧ Q c := ⟨_, rfl, h⟩
instance  : Step (∃ c, dAdd (.int i) (.int j) = some c ∧ Q c) (Q (.int (i + j))) := ⟨bx_add_int⟩
theorem bx_add_str (hl : x.length + y.length ≤ sizeLine) (h : Q (.str (x ++ y))) : ∃ c, dAdd (.str x) (.str y) = some c ∧ Q c := ⟨_, if_pos hl, h⟩
instance  : StepS (∃ c, dAdd (.str x) (.str y) = some c ∧ Q c) (x.length + y.length ≤ sizeLine) (Q (.str (x ++ y))) := ⟨bx_add_str⟩
theorem bx_add_tup (hl : xs.length + ys.length ≤ sizeLine) (h : Q (.tuple (xs ++ ys))) : ∃ c, dAdd (.tuple xs) (.tuple ys) = some c ∧ Q c := ⟨_, if_pos hl, h⟩
theorem bx_add_lst (hl : xs.length + ys.length ≤ sizeLine) (h : Q (.list (xs ++ ys))) : ∃ c, dAdd (.list xs) (.list ys) = some c ∧ Q c := ⟨_, if_pos hl, h⟩
theorem bx_sub (h : Q (.int (i - j))) : ∃ c, dSub (.int i) (.int j) = some c ∧ Q c := ⟨_, rfl, h⟩
instance  : Step (∃ c, dSub (.int i) (.int j) = some c ∧ Q c) (Q (.int (i - j))) := ⟨bx_sub⟩
theorem bx_mul (hc : (-(2 ^ 64) < i ∧ i < 2 ^ 64) ∨ (-(2 ^ 64) < j ∧ j < 2 ^ 64)) (h : Q (.int (i * j))) : ∃ c, dMul (.int i) (.int j) = some c ∧ Q c := ⟨_, if_pos hc, h⟩
instance  : StepS (∃ c, dMul (.int i) (.int j) = some c ∧ Q c) ((-(2 ^ 64) < i ∧ i < 2 ^ 64) ∨ (-(2 ^ 64) < j ∧ j < 2 ^ 64)) (Q (.int (i * j))) := ⟨bx_mul⟩
theorem bx_rep (hc : -1000000 ≤ j ∧ j ≤ 1000000 ∧ x.length ≤ 16) (h : Q (.str (strRep x j))) : ∃ c, dMul (.str x) (.int j) = some c ∧ Q c := ⟨_, if_pos hc, h⟩
instance  : StepS (∃ c, dMul (.str x) (.int j) = some c ∧ Q c) (-1000000 ≤ j ∧ j ≤ 1000000 ∧ x.length ≤ 16) (Q (.str (strRep x j))) := ⟨bx_rep⟩
theorem bx_mod (hc : 0 < j) (h : Q (.int (i % j))) : ∃ c, dMod (.int i) (.int j) = some c ∧ Q c := ⟨_, if_pos (decide_eq_true hc), h⟩
instance  : StepS (∃ c, dMod (.int i) (.int j) = some c ∧ Q c) (0 < j) (Q (.int (i % j))) := ⟨bx_mod⟩
theorem bx_div (hc : 0 < j ∧ j < 4611686018427387904) (h : Q (.int (i / j))) : ∃ c, dDiv (.int i) (.int j) = some c ∧ Q c := ⟨_, if_pos (decide_eq_true hc), h⟩
instance  : StepS (∃ c, dDiv (.int i) (.int j) = some c ∧ Q c) (0 < j ∧ j < 4611686018427387904) (Q (.int (i / j))) := ⟨bx_div⟩
theorem bx_pow (hc : 0 ≤ j ∧ j ≤ 1000000 ∧ i.natAbs < 2 ^ 64) (h : Q (.int (i ^ j.toNat))) : ∃ c, dPow (.int i) (.int j) = some c ∧ Q c := ⟨_, if_pos (decide_eq_true hc), h⟩
instance  : StepS (∃ c, dPow (.int i) (.int j) = some c ∧ Q c) (0 ≤ j ∧ j ≤ 1000000 ∧ i.natAbs < 2 ^ 64) (Q (.int (i ^ j.toNat))) := ⟨bx_pow⟩
theorem bx_eq_str (h : Q (.bool (decide (x = y)))) : ∃ c, dEq (.str x) (.str y) = some c ∧ Q c := ⟨_, rfl, h⟩
instance  : Step (∃ c, dEq (.str x) (.str y) = some c ∧ Q c) (Q (.bool (decide (x = y)))) := ⟨bx_eq_str⟩
theorem bx_ne_str (h : Q (.bool (!decide (x = y)))) : ∃ c, dNe (.str x) (.str y) = some c ∧ Q c := ⟨_, rfl, h⟩
instance  : Step (∃ c, dNe (.str x) (.str y) = some c ∧ Q c) (Q (.bool (!decide (x = y)))) := ⟨bx_ne_str⟩
theorem dEqB_of (hn : isStr d = false ∨ isStr e = false) (h1 : SeqAt.shaped d = true) (h2 : SeqAt.shaped e = true) : dEqB d e = some (PyData.eqv d e) := by
  have z : (if SeqAt.shaped d = true ∧ SeqAt.shaped e = true then some (PyData.eqv d e) else none) = some (PyData.eqv d e) := if_pos ⟨h1, h2⟩
  cases d <;> first | exact z | (cases e <;> first | exact z | (rcases hn with hn | hn <;> cases hn))
theorem bx_eq (hn : isStr d = false ∨ isStr e = false) (h1 : SeqAt.shaped d = true) (h2 : SeqAt.shaped e = true) (h : Q (.bool (PyData.eqv d e))) : ∃ c, dEq d e = some c ∧ Q c := ⟨_, by unfold dEq; rw [dEqB_of hn h1 h2]; rfl, h⟩
theorem bx_ne (hn : isStr d = false ∨ isStr e = false) (h1 : SeqAt.shaped d = true) (h2 : SeqAt.shaped e = true) (h : Q (.bool (!PyData.eqv d e))) : ∃ c, dNe d e = some c ∧ Q c := ⟨_, by unfold dNe; rw [dEqB_of hn h1 h2]; rfl, h⟩
theorem eqv_int : PyData.eqv (.int i) (.int j) = decide (i = j) := by by_cases h : i = j <;> simp [PyData.eqv, h]
theorem eqv_bl {a b : Bool} : PyData.eqv (.bool a) (.bool b) = decide (a = b) := by cases a <;> cases b <;> rfl
theorem bx_eq_int (h : Q (.bool (decide (i = j)))) : ∃ c, dEq (.int i) (.int j) = some c ∧ Q c := bx_eq (.inl rfl) rfl rfl (by rw [eqv_int]; exact h)
instance  : Step (∃ c, dEq (.int i) (.int j) = some c ∧ Q c) (Q (.bool (decide (i = j)))) := ⟨bx_eq_int⟩
theorem bx_eq_bl {a b : Bool} (h : Q (.bool (decide (a = b)))) : ∃ c, dEq (.bool a) (.bool b) = some c ∧ Q c := bx_eq (.inl rfl) rfl rfl (by rw [eqv_bl]; exact h)
instance {a b : Bool} : Step (∃ c, dEq (.bool a) (.bool b) = some c ∧ Q c) (Q (.bool (decide (a = b)))) := ⟨bx_eq_bl⟩
theorem bx_ne_int (h : Q (.bool (!decide (i = j)))) : ∃ c, dNe (.int i) (.int j) = some c ∧ Q c := bx_ne (.inl rfl) rfl rfl (by rw [eqv_int]; exact h)
instance  : Step (∃ c, dNe (.int i) (.int j) = some c ∧ Q c) (Q (.bool (!decide (i = j)))) := ⟨bx_ne_int⟩
theorem bx_ne_bl {a b : Bool} (h : Q (.bool (!decide (a = b)))) : ∃ c, dNe (.bool a) (.bool b) = some c ∧ Q c := bx_ne (.inl rfl) rfl rfl (by rw [eqv_bl]; exact h)
instance {a b : Bool} : Step (∃ c, dNe (.bool a) (.bool b) = some c ∧ Q c) (Q (.bool (!decide (a = b)))) := ⟨bx_ne_bl⟩
theorem bx_lt (h : Q (.bool (decide (i < j)))) : ∃ c, dLt (.int i) (.int j) = some c ∧ Q c := ⟨_, rfl, h⟩
instance  : Step (∃ c, dLt (.int i) (.int j) = some c ∧ Q c) (Q (.bool (decide (i < j)))) := ⟨bx_lt⟩
theorem bx_le (h : Q (.bool (decide (i ≤ j)))) : ∃ c, dLe (.int i) (.int j) = some c ∧ Q c := ⟨_, rfl, h⟩
instance  : Step (∃ c, dLe (.int i) (.int j) = some c ∧ Q c) (Q (.bool (decide (i ≤ j)))) := ⟨bx_le⟩
theorem bx_gt (h : Q (.bool (decide (j < i)))) : ∃ c, dGt (.int i) (.int j) = some c ∧ Q c := ⟨_, rfl, h⟩
instance  : Step (∃ c, dGt (.int i) (.int j) = some c ∧ Q c) (Q (.bool (decide (j < i)))) := ⟨bx_gt⟩
theorem bx_ge (h : Q (.bool (decide (j ≤ i)))) : ∃ c, dGe (.int i) (.int j) = some c ∧ Q c := ⟨_, rfl, h⟩
instance  : Step (∃ c, dGe (.int i) (.int j) = some c ∧ Q c) (Q (.bool (decide (j ≤ i)))) := ⟨bx_ge⟩
theorem bx_in_str (h : Q (.bool (strIn x y))) : ∃ c, dIn (.str x) (.str y) = some c ∧ Q c := ⟨_, rfl, h⟩
instance  : Step (∃ c, dIn (.str x) (.str y) = some c ∧ Q c) (Q (.bool (strIn x y))) := ⟨bx_in_str⟩
theorem bx_nin_str (h : Q (.bool (!strIn x y))) : ∃ c, dNotIn (.str x) (.str y) = some c ∧ Q c := ⟨_, rfl, h⟩
instance  : Step (∃ c, dNotIn (.str x) (.str y) = some c ∧ Q c) (Q (.bool (!strIn x y))) := ⟨bx_nin_str⟩
theorem dInB_lst (h1 : flatD d = true) (h2 : xs.all flatD = true) : dInB d (.list xs) = some (inD d xs) := by
  cases d <;> first | exact if_pos ⟨h1, h2⟩ | simp [flatD] at h1
theorem bx_nin_lst (h1 : flatD d = true) (h2 : xs.all flatD = true) (h : Q (.bool (!inD d xs))) : ∃ c, dNotIn d (.list xs) = some c ∧ Q c := ⟨_, by unfold dNotIn; rw [dInB_lst h1 h2]; rfl, h⟩
theorem bx_is_bl {a b : Bool} (h : Q (.bool (decide (a = b)))) : ∃ c, dIs (.bool a) (.bool b) = some c ∧ Q c := ⟨_, rfl, h⟩
instance {a b : Bool} : Step (∃ c, dIs (.bool a) (.bool b) = some c ∧ Q c) (Q (.bool (decide (a = b)))) := ⟨bx_is_bl⟩
theorem bx_isNot_bl {a b : Bool} (h : Q (.bool (!decide (a = b)))) : ∃ c, dIsNot (.bool a) (.bool b) = some c ∧ Q c := ⟨_, rfl, h⟩
instance {a b : Bool} : Step (∃ c, dIsNot (.bool a) (.bool b) = some c ∧ Q c) (Q (.bool (!decide (a = b)))) := ⟨bx_isNot_bl⟩
theorem bx_is_non (h : Q (.bool (isN d))) : ∃ c, dIs d .none = some c ∧ Q c := ⟨.bool (isN d), by unfold dIs; cases d <;> rfl, h⟩
instance  : Step (∃ c, dIs d .none = some c ∧ Q c) (Q (.bool (isN d))) := ⟨bx_is_non⟩
theorem bx_isNot_non (h : Q (.bool (!isN d))) : ∃ c, dIsNot d .none = some c ∧ Q c := ⟨.bool (!isN d), by unfold dIsNot; cases d <;> rfl, h⟩
instance  : Step (∃ c, dIsNot d .none = some c ∧ Q c) (Q (.bool (!isN d))) := ⟨bx_isNot_non⟩
theorem bx_ix_lst (h1 : atI xs i = some d) (h : Q d) : ∃ c, dIx (.list xs) (.int i) = some c ∧ Q c := ⟨d, h1, h⟩
theorem bx_sl_str {lo hi : Option Int} (hl : x.length ≤ sizeLine) (h : Q (.str (cutS x lo hi))) : ∃ c, dSl (.str x) lo hi = some c ∧ Q c := ⟨_, if_pos hl, h⟩
instance {lo hi : Option Int} : StepS (∃ c, dSl (.str x) lo hi = some c ∧ Q c) (x.length ≤ sizeLine) (Q (.str (cutS x lo hi))) := ⟨bx_sl_str⟩
theorem bx_sl_tup {lo hi : Option Int} (h : Q (.tuple (cutD xs lo hi))) : ∃ c, dSl (.tuple xs) lo hi = some c ∧ Q c := ⟨_, rfl, h⟩
instance {lo hi : Option Int} : Step (∃ c, dSl (.tuple xs) lo hi = some c ∧ Q c) (Q (.tuple (cutD xs lo hi))) := ⟨bx_sl_tup⟩
theorem bx_sl_lst {lo hi : Option Int} (h : Q (.list (cutD xs lo hi))) : ∃ c, dSl (.list xs) lo hi = some c ∧ Q c := ⟨_, rfl, h⟩
instance {lo hi : Option Int} : Step (∃ c, dSl (.list xs) lo hi = some c ∧ Q c) (Q (.list (cutD xs lo hi))) := ⟨bx_sl_lst⟩
theorem bx_neg (h : Q (.int (-i))) : ∃ c, dNeg (.int i) = some c ∧ Q c := ⟨_, rfl, h⟩
instance  : Step (∃ c, dNeg (.int i) = some c ∧ Q c) (Q (.int (-i))) := ⟨bx_neg⟩
theorem bx_len_str (hl : x.length ≤ sizeLine) (h : Q (.int x.length)) : ∃ c, bLen [.str x] = some c ∧ Q c := ⟨_, if_pos hl, h⟩
instance  : StepS (∃ c, bLen [.str x] = some c ∧ Q c) (x.length ≤ sizeLine) (Q (.int x.length)) := ⟨bx_len_str⟩
theorem bx_len_lst (h : Q (.int xs.length)) : ∃ c, bLen [.list xs] = some c ∧ Q c := ⟨_, rfl, h⟩
instance  : Step (∃ c, bLen [.list xs] = some c ∧ Q c) (Q (.int xs.length)) := ⟨bx_len_lst⟩
theorem bx_len_tup (h : Q (.int xs.length)) : ∃ c, bLen [.tuple xs] = some c ∧ Q c := ⟨_, rfl, h⟩
instance  : Step (∃ c, bLen [.tuple xs] = some c ∧ Q c) (Q (.int xs.length)) := ⟨bx_len_tup⟩
theorem bx_int_int (h : Q (.int i)) : ∃ c, bInt [.int i] = some c ∧ Q c := ⟨_, rfl, h⟩
instance  : Step (∃ c, bInt [.int i] = some c ∧ Q c) (Q (.int i)) := ⟨bx_int_int⟩
theorem bx_int_bl {b : Bool} (h : Q (.int (if b then 1 else 0))) : ∃ c, bInt [.bool b] = some c ∧ Q c := ⟨_, rfl, h⟩
instance {b : Bool} : Step (∃ c, bInt [.bool b] = some c ∧ Q c) (Q (.int (if b then 1 else 0))) := ⟨bx_int_bl⟩
theorem bx_II {f : Int → Int → Int} (h : Q (.int (f i j))) : ∃ c, bII f [.int i, .int j] = some c ∧ Q c := ⟨_, rfl, h⟩
instance {f : Int → Int → Int} : Step (∃ c, bII f [.int i, .int j] = some c ∧ Q c) (Q (.int (f i j))) := ⟨bx_II⟩
theorem bx_tuple_lst (h : Q (.tuple xs)) : ∃ c, bTuple [.list xs] = some c ∧ Q c := ⟨_, rfl, h⟩
instance  : Step (∃ c, bTuple [.list xs] = some c ∧ Q c) (Q (.tuple xs)) := ⟨bx_tuple_lst⟩
theorem bx_tuple_tup (h : Q (.tuple xs)) : ∃ c, bTuple [.tuple xs] = some c ∧ Q c := ⟨_, rfl, h⟩
instance  : Step (∃ c, bTuple [.tuple xs] = some c ∧ Q c) (Q (.tuple xs)) := ⟨bx_tuple_tup⟩
theorem bx_list_lst (h : Q (.list xs)) : ∃ c, bList [.list xs] = some c ∧ Q c := ⟨_, rfl, h⟩
instance  : Step (∃ c, bList [.list xs] = some c ∧ Q c) (Q (.list xs)) := ⟨bx_list_lst⟩
theorem bx_list_tup (h : Q (.list xs)) : ∃ c, bList [.tuple xs] = some c ∧ Q c := ⟨_, rfl, h⟩
instance  : Step (∃ c, bList [.tuple xs] = some c ∧ Q c) (Q (.list xs)) := ⟨bx_list_tup⟩
theorem toIs_map : ∀ bs : List Int, toIs (bs.map PyData.int) = some bs
  | [] => rfl
  | b :: r => by rw [List.map_cons]; unfold toIs; rw [toIs_map r]; rfl
theorem toSs_map : ∀ bs : List Str, toSs (bs.map PyData.str) = some bs
  | [] => rfl
  | b :: r => by rw [List.map_cons]; unfold toSs; rw [toSs_map r]; rfl
theorem bx_sum {ns : List Int} (h : Q (.int ns.sum)) : ∃ c, bSum [.list (ns.map PyData.int)] = some c ∧ Q c := ⟨.int ns.sum, by show (toIs (ns.map PyData.int)).map _ = _; rw [toIs_map]; rfl, h⟩
theorem bx_split (h1 : (y.length == 0) = false) (h2 : x.length + 2 ≤ sizeLine) (h : Q (.list ((Txt.split x y).map PyData.str))) : ∃ c, sSplit x [.str y] = some c ∧ Q c := ⟨_, if_pos ⟨h1, h2⟩, h⟩
theorem bx_joinO {P : D → Prop} {ns : List Str} (h1 : joinN x ns ≤ 16777216) (h : P (.str (Txt.join x ns))) : ∃ c, sJoin x [.list (ns.map PyData.str)] = some c ∧ flatD c = true ∧ P c := ⟨.str (Txt.join x ns), by
  show ((toSs (ns.map PyData.str)).bind fun ys => if joinN x ys ≤ 16777216 then some (PyData.str (Txt.join x ys)) else none) = _
  rw [toSs_map]
  exact if_pos h1, rfl, h⟩
theorem bx_rng1 {R : List D → Prop} (h1 : inLine i = true) (h : R (rngD 0 i.toNat)) : ∃ ds, bRng1 (.int i) = some ds ∧ R ds := ⟨_, if_pos h1, h⟩
instance {R : List D → Prop} : StepS (∃ ds, bRng1 (.int i) = some ds ∧ R ds) (inLine i = true) (R (rngD 0 i.toNat)) := ⟨bx_rng1⟩
theorem bx_it_lst {R : List D → Prop} (h : R xs) : ∃ ds, dItems (.list xs) = some ds ∧ R ds := ⟨_, rfl, h⟩
instance {R : List D → Prop} : Step (∃ ds, dItems (.list xs) = some ds ∧ R ds) (R xs) := ⟨bx_it_lst⟩
theorem bx_it_tup {R : List D → Prop} (h : R xs) : ∃ ds, dItems (.tuple xs) = some ds ∧ R ds := ⟨_, rfl, h⟩
instance {R : List D → Prop} : Step (∃ ds, dItems (.tuple xs) = some ds ∧ R ds) (R xs) := ⟨bx_it_tup⟩
theorem bx_it_str {R : List D → Prop} (h : R (sgnD x)) : ∃ ds, dItems (.str x) = some ds ∧ R ds := ⟨_, rfl, h⟩
instance {R : List D → Prop} : Step (∃ ds, dItems (.str x) = some ds ∧ R ds) (R (sgnD x)) := ⟨bx_it_str⟩
end
theorem inLine_of {i : Int} (h : -(2 ^ 62) ≤ i ∧ i < 2 ^ 62) : inLine i = true := decide_eq_true h
theorem line_of {n : Nat} (h : n ≤ 16777216) : n ≤ sizeLine := h
theorem kb_ss : kitB "str" "str" = some true := by decide +kernel
theorem kb_is : kitB "int" "str" = some false := by decide +kernel
theorem kb_bs : kitB "bool" "str" = some false := by decide +kernel
theorem kb_ns : kitB "NoneType" "str" = some false := by decide +kernel
theorem kb_ls : kitB "list" "str" = some false := by decide +kernel
theorem kb_ts : kitB "tuple" "str" = some false := by decide +kernel
theorem kb_ii : kitB "int" "int" = some true := by decide +kernel
theorem kb_bi : kitB "bool" "int" = some true := by decide +kernel
theorem kb_si : kitB "str" "int" = some false := by decide +kernel
theorem kb_ni : kitB "NoneType" "int" = some false := by decide +kernel
theorem kb_li : kitB "list" "int" = some false := by decide +kernel
theorem kb_ti : kitB "tuple" "int" = some false := by decide +kernel
theorem kb_bb : kitB "bool" "bool" = some true := by decide +kernel
theorem kb_ib : kitB "int" "bool" = some false := by decide +kernel
theorem kb_sb : kitB "str" "bool" = some false := by decide +kernel
theorem kb_nb : kitB "NoneType" "bool" = some false := by decide +kernel
theorem kb_lb : kitB "list" "bool" = some false := by decide +kernel
theorem kb_tb : kitB "tuple" "bool" = some false := by decide +kernel
theorem kb_tt : kitB "tuple" "tuple" = some true := by decide +kernel
theorem kb_it : kitB "int" "tuple" = some false := by decide +kernel
theorem kb_bt : kitB "bool" "tuple" = some false := by decide +kernel
theorem kb_st : kitB "str" "tuple" = some false := by decide +kernel
theorem kb_nt : kitB "NoneType" "tuple" = some false := by decide +kernel
theorem kb_lt : kitB "list" "tuple" = some false := by decide +kernel
@[reducible] def isBool : D → Bool
  | .bool _ => true
  | _ => false
@[reducible] def isInt : D → Bool
  | .int _ => true
  | .bool _ => true
  | _ => false
@[reducible] def isTup : D → Bool
  | .tuple _ => true
  | _ => false
def noDict : D → Bool
  | .dict _ => false
  | _ => true
section
variable {R : Bool → Prop} {d : D}
theorem bx_isi_str (hd : noDict d = true) (h : R (isStr d)) : ∃ b, kitB (tyD d) "str" = some b ∧ R b := by
  cases d <;> first | exact ⟨_, kb_ss, h⟩ | exact ⟨_, kb_is, h⟩ | exact ⟨_, kb_bs, h⟩ | exact ⟨_, kb_ns, h⟩ | exact ⟨_, kb_ls, h⟩ | exact ⟨_, kb_ts, h⟩ | cases hd
instance  : StepS (∃ b, kitB (tyD d) "str" = some b ∧ R b) (noDict d = true) (R (isStr d)) := ⟨bx_isi_str⟩
theorem bx_isi_bool (hd : noDict d = true) (h : R (isBool d)) : ∃ b, kitB (tyD d) "bool" = some b ∧ R b := by
  cases d <;> first | exact ⟨_, kb_bb, h⟩ | exact ⟨_, kb_ib, h⟩ | exact ⟨_, kb_sb, h⟩ | exact ⟨_, kb_nb, h⟩ | exact ⟨_, kb_lb, h⟩ | exact ⟨_, kb_tb, h⟩ | cases hd
instance  : StepS (∃ b, kitB (tyD d) "bool" = some b ∧ R b) (noDict d = true) (R (isBool d)) := ⟨bx_isi_bool⟩
theorem bx_isi_int (hd : noDict d = true) (h : R (isInt d)) : ∃ b, kitB (tyD d) "int" = some b ∧ R b := by
  cases d <;> first | exact ⟨_, kb_ii, h⟩ | exact ⟨_, kb_bi, h⟩ | exact ⟨_, kb_si, h⟩ | exact ⟨_, kb_ni, h⟩ | exact ⟨_, kb_li, h⟩ | exact ⟨_, kb_ti, h⟩ | cases hd
instance  : StepS (∃ b, kitB (tyD d) "int" = some b ∧ R b) (noDict d = true) (R (isInt d)) := ⟨bx_isi_int⟩
theorem bx_isi_tup (hd : noDict d = true) (h : R (isTup d)) : ∃ b, kitB (tyD d) "tuple" = some b ∧ R b := by
  cases d <;> first | exact ⟨_, kb_tt, h⟩ | exact ⟨_, kb_it, h⟩ | exact ⟨_, kb_bt, h⟩ | exact ⟨_, kb_st, h⟩ | exact ⟨_, kb_nt, h⟩ | exact ⟨_, kb_lt, h⟩ | cases hd
instance  : StepS (∃ b, kitB (tyD d) "tuple" = some b ∧ R b) (noDict d = true) (R (isTup d)) := ⟨bx_isi_tup⟩
end
section
variable {A B : Prop} {Q : Sl → Env → Prop} {R : Fl → Env → Prop} {s : Sl} {ps : List Nat} {n : Nat} {e : Env} {p : Prop} {m : M Fl}
theorem seq_nx (h : A) : (Fl.nx = .nx → A) ∧ (Fl.nx ≠ .nx → B) := ⟨fun _ => h, fun z => absurd rfl z⟩
theorem seq_rt (h : B) : (Fl.rt s = .nx → A) ∧ (Fl.rt s ≠ .nx → B) := ⟨fun z => (nomatch z), fun _ => h⟩
theorem fin_rt (h : Q s (outs ps n e)) : (Fl.rt s = .nx → A) ∧ (∀ s', Fl.rt s = .rt s' → Q s' (outs ps n e)) ∧ Fl.rt s ≠ .bk ∧ Fl.rt s ≠ .ct := ⟨fun z => (nomatch z), fun s' z => by cases z; exact h, by simp, by simp⟩
theorem fin_nx (h : A) : (Fl.nx = .nx → A) ∧ (∀ s', Fl.nx = .rt s' → Q s' (outs ps n e)) ∧ Fl.nx ≠ .bk ∧ Fl.nx ≠ .ct := ⟨fun _ => h, fun s' z => (nomatch z), by simp, by simp⟩
theorem turn_nx {C : Sl → Prop} (h : A) : (Fl.nx = .nx ∨ Fl.nx = .ct → A) ∧ (Fl.nx = .bk → B) ∧ (∀ s', Fl.nx = .rt s' → C s') := ⟨fun _ => h, fun z => (nomatch z), fun s' z => (nomatch z)⟩
theorem turn_ct {C : Sl → Prop} (h : A) : (Fl.ct = .nx ∨ Fl.ct = .ct → A) ∧ (Fl.ct = .bk → B) ∧ (∀ s', Fl.ct = .rt s' → C s') := ⟨fun _ => h, fun z => (nomatch z), fun s' z => (nomatch z)⟩
theorem turn_bk {C : Sl → Prop} (h : B) : (Fl.bk = .nx ∨ Fl.bk = .ct → A) ∧ (Fl.bk = .bk → B) ∧ (∀ s', Fl.bk = .rt s' → C s') := ⟨fun z => by simp at z, fun _ => h, fun s' z => (nomatch z)⟩
theorem turn_rt {C : Sl → Prop} (h : C s) : (Fl.rt s = .nx ∨ Fl.rt s = .ct → A) ∧ (Fl.rt s = .bk → B) ∧ (∀ s', Fl.rt s = .rt s' → C s') := ⟨fun z => by simp at z, fun z => (nomatch z), fun s' z => by cases z; exact h⟩
theorem two_T (h : A) : (true = true → A) ∧ (true = false → B) := ⟨fun _ => h, fun z => (nomatch z)⟩
instance  : Step ((true = true → A) ∧ (true = false → B)) (A) := ⟨two_T⟩
theorem two_F (h : B) : (false = true → A) ∧ (false = false → B) := ⟨fun z => (nomatch z), fun _ => h⟩
instance  : Step ((false = true → A) ∧ (false = false → B)) (B) := ⟨two_F⟩
theorem two_dec [Decidable p] (h1 : p → A) (h2 : ¬ p → B) : (decide p = true → A) ∧ (decide p = false → B) := ⟨fun z => h1 (of_decide_eq_true z), fun z => h2 (of_decide_eq_false z)⟩
theorem two_dT {α : Type} {a : α} [Decidable (a = a)] (h : A) : (decide (a = a) = true → A) ∧ (decide (a = a) = false → B) := two_dec (fun _ => h) fun z => absurd rfl z
instance {α : Type} {a : α} [Decidable (a = a)] : Step ((decide (a = a) = true → A) ∧ (decide (a = a) = false → B)) (A) := ⟨two_dT⟩
theorem two_not {b : Bool} (h : (b = true → B) ∧ (b = false → A)) : ((!b) = true → A) ∧ ((!b) = false → B) := ⟨fun z => h.2 (by simpa using z), fun z => h.1 (by simpa using z)⟩
instance {b : Bool} : Step (((!b) = true → A) ∧ ((!b) = false → B)) ((b = true → B) ∧ (b = false → A)) := ⟨two_not⟩
theorem toB_bl {b : Bool} {R : Bool → Prop} (h : R b) : ∃ k, toB (.bool b) = some k ∧ R k := ⟨b, rfl, h⟩
instance {b : Bool} {R : Bool → Prop} : Step (∃ k, toB (.bool b) = some k ∧ R k) (R b) := ⟨toB_bl⟩
end
theorem filter_take_succ {α : Type} (p : α → Bool) (ds : List α) (i : Nat) (d : α) (h : ds[i]? = some d) : (ds.take (i + 1)).filter p = (ds.take i).filter p ++ (if p d then [d] else []) := by
  rw [List.take_add_one, h, List.filter_append]
  cases hp : p d <;> simp [hp]
theorem run_yes {e : Env} {Q : Bool → Env → Prop} (h : Q true e) : Run mYes e Q := Run.i h
theorem flat_strs : ∀ ys : List Str, (ys.map PyData.str).all flatD = true
  | [] => rfl
  | y :: ys => by rw [List.map_cons, List.all_cons, flat_strs ys]; rfl
/-- parts of a text are no longer than it -/
theorem spl_len (S : List Nat) : ∀ (l : List Nat) (k : Nat) (acc : List Nat), ∀ p ∈ spl S k acc l, p.length ≤ acc.length + l.length
  | [], k, acc, p, h => by
    rw [spl_nil] at h
    simp at h
    subst h
    simp
  | c :: r, 0, acc, p, h => by
    by_cases hp : pre S (c :: r) = true
    · rw [spl_hit hp] at h
      rcases List.mem_cons.mp h with e | h
      · subst e; simp
      · have := spl_len S r _ _ p h
        simp at this ⊢
        omega
    · rw [spl_miss (by simpa using hp)] at h
      have := spl_len S r _ _ p h
      simp at this ⊢
      omega
  | c :: r, k + 1, acc, p, h => by
    have := spl_len S r k acc p h
    simp at this ⊢
    omega
theorem run_forL_nil {δ : Env} {g : D → M Unit} {mb : M Fl} {Q : Fl → Env → Prop} (h : Q .nx δ) : Run (forL g mb []) δ Q := Run.i h
theorem flat_int {i : Int} {P : Prop} (h : P) : flatD (.int i) = true ∧ P := ⟨rfl, h⟩
instance {i : Int} {P : Prop} : Step (flatD (.int i) = true ∧ P) (P) := ⟨flat_int⟩
theorem flat_str {x : Str} {P : Prop} (h : P) : flatD (.str x) = true ∧ P := ⟨rfl, h⟩
instance {x : Str} {P : Prop} : Step (flatD (.str x) = true ∧ P) (P) := ⟨flat_str⟩
theorem flat_bl {b : Bool} {P : Prop} (h : P) : flatD (.bool b) = true ∧ P := ⟨rfl, h⟩
instance {b : Bool} {P : Prop} : Step (flatD (.bool b) = true ∧ P) (P) := ⟨flat_bl⟩
theorem split_len {x y : Str} (hy : tl y ≠ []) (hk : y.cps.all (· < 256) = true) : ∀ p ∈ Txt.split x y, p.length ≤ x.length := fun p hp => by
  have e := split_spl x y hy (kind_ok hk)
  have hm : tl p ∈ spl (tl y) 0 [] (tl x) := by rw [← e]; exact List.mem_map_of_mem hp
  have := spl_len _ _ _ _ _ hm
  rw [len_tl, len_tl]
  simpa using this
theorem spl_mem (S : List Nat) : ∀ (l : List Nat) (k : Nat) (acc : List Nat), ∀ p ∈ spl S k acc l, ∀ c ∈ p, c ∈ acc ∨ c ∈ l
  | [], k, acc, p, h, c, hc => by
    rw [spl_nil] at h
    simp at h
    subst h
    exact .inl hc
  | a :: r, 0, acc, p, h, c, hc => by
    by_cases hp : pre S (a :: r) = true
    · rw [spl_hit hp] at h
      rcases List.mem_cons.mp h with e | h
      · subst e; exact .inl hc
      · rcases spl_mem S r _ _ p h c hc with z | z
        · cases z
        · exact .inr (List.mem_cons_of_mem _ z)
    · rw [spl_miss (by simpa using hp)] at h
      rcases spl_mem S r _ _ p h c hc with z | z
      · rcases List.mem_append.mp z with z | z
        · exact .inl z
        · exact .inr (by simp at z; simp [z])
      · exact .inr (List.mem_cons_of_mem _ z)
  | a :: r, k + 1, acc, p, h, c, hc => by
    rcases spl_mem S r k acc p h c hc with z | z
    · exact .inl z
    · exact .inr (List.mem_cons_of_mem _ z)
theorem split_mem {x y : Str} (hy : tl y ≠ []) (hk : y.cps.all (· < 256) = true) : ∀ p ∈ Txt.split x y, ∀ c ∈ tl p, c ∈ tl x := fun p hp c hc => by
  have e := split_spl x y hy (kind_ok hk)
  have hm : tl p ∈ spl (tl y) 0 [] (tl x) := by rw [← e]; exact List.mem_map_of_mem hp
  rcases spl_mem _ _ _ _ _ hm c hc with z | z
  · cases z
  · exact z
end Dn
namespace Dn
open PySem PySem.Spec PyProof.Rows L2 TL
theorem tl_cutS (x : Str) (lo hi : Option Int) : tl (cutS x lo hi) = ((tl x).drop (HT.sIx x.length 0 lo)).take (HT.sIx x.length x.length hi - HT.sIx x.length 0 lo) := by
  unfold cutS
  simp [tl]
/-- texts of up to n plain signs -/
def Ok (n : Nat) (x : Str) : Prop := x.length ≤ n ∧ ∀ c ∈ tl x, c < 128
theorem Ok.line {n : Nat} {x : Str} (h : Ok n x) (hn : n ≤ 16777216 := by decide) : x.length ≤ sizeLine := Nat.le_trans h.1 hn
theorem Ok.mono {n m : Nat} {x : Str} (h : Ok n x) (k : n ≤ m) : Ok m x := ⟨Nat.le_trans h.1 k, h.2⟩
theorem len_append (x y : Str) : (x ++ y).length = x.length + y.length := by rw [len_tl, len_tl, len_tl, tl_append, List.length_append]
theorem Ok.append {n m : Nat} {x y : Str} (h : Ok n x) (k : Ok m y) : Ok (n + m) (x ++ y) := ⟨by rw [len_append]; have := h.1; have := k.1; omega, fun c hc => by
  rw [tl_append] at hc
  exact (List.mem_append.mp hc).elim (h.2 c) (k.2 c)⟩
theorem cutS_mem {x : Str} {lo hi : Option Int} {c : Nat} (h : c ∈ tl (cutS x lo hi)) : c ∈ tl x := by
  rw [tl_cutS] at h
  exact List.mem_of_mem_drop (List.mem_of_mem_take h)
theorem cutS_len {x : Str} {lo hi : Option Int} : (cutS x lo hi).length ≤ x.length := by
  rw [len_tl, tl_cutS, List.length_take, List.length_drop, ← len_tl]
  omega
theorem Ok.cut {n : Nat} {x : Str} (h : Ok n x) (lo hi : Option Int) : Ok n (cutS x lo hi) := ⟨Nat.le_trans cutS_len h.1, fun c hc => h.2 c (cutS_mem hc)⟩
theorem Ok.lit (x : Str) (n : Nat) (h : (decide (x.length ≤ n) && (tl x).all (· < 128)) = true) : Ok n x := by
  rw [Bool.and_eq_true] at h
  exact ⟨of_decide_eq_true h.1, fun c hc => by simpa using List.all_eq_true.mp h.2 c hc⟩
theorem Ok.one {c : Nat} (h : c < 128) : Ok 1 ⟨#[c]⟩ := ⟨Nat.le_refl 1, fun d hd => by simp [tl] at hd; omega⟩
theorem tl_join (ss : List Str) : tl (Txt.join Str.empty ss) = ss.flatMap tl := by
  show tl (PySem.Builtin.Str.glued _ ss) = _
  rw [StrLaws.glued_eq_join]
  induction ss with
  | nil => rfl
  | cons a r ih =>
    cases r with
    | nil => simp [Str.join]
    | cons b r =>
      show tl (a ++ Str.empty ++ Str.join Str.empty (b :: r)) = _
      rw [tl_append, tl_append, ih]
      simp [tl, Str.empty]
theorem joinN_le {ss : List Str} {k : Nat} (h : ∀ s ∈ ss, s.length ≤ k) : joinN Str.empty ss ≤ ss.length * k := by
  unfold joinN
  show _ + ss.length * 0 ≤ _
  rw [Nat.mul_zero, Nat.add_zero]
  induction ss with
  | nil => simp
  | cons a r ih =>
    have h1 := h a List.mem_cons_self
    have h2 := ih fun s hs => h s (List.mem_cons_of_mem _ hs)
    rw [List.map_cons, List.sum_cons, List.length_cons, Nat.succ_mul]
    omega
theorem Ok.strOk {n : Nat} {x : Str} (h : Ok n x) : PyData.strOk x = true := by
  unfold PyData.strOk
  rw [← Array.all_toList]
  rw [List.all_eq_true]
  intro c hc
  have := h.2 c hc
  first
    | (simp; omega)
    | trace_state
theorem sep_ok {b : Nat} (hb : b < 256) : (⟨#[b]⟩ : Str).cps.all (· < 256) = true := by simp [hb]
theorem Ok.split {n b : Nat} (hb : b < 256) {x : Str} (h : Ok n x) : ∀ p ∈ Txt.split x ⟨#[b]⟩, Ok n p := fun p hp =>
  ⟨Nat.le_trans (split_len (by simp [tl]) (sep_ok hb) p hp) h.1, fun c hc => h.2 c (split_mem (by simp [tl]) (sep_ok hb) p hp c hc)⟩
def St (c : Nat) (st : List D) : Prop := ∃ a b k : Int, st = [.int a, .int b, .int k] ∧ 0 ≤ a ∧ 0 ≤ b ∧ b < 2147483647 ∧ 0 ≤ k ∧ k ≤ c
theorem St.mono {c c' : Nat} {st : List D} (h : St c st) (k : c ≤ c') : St c' st := by
  obtain ⟨a, b, k', e, h1, h2, h3, h4, h5⟩ := h
  exact ⟨a, b, k', e, h1, h2, h3, h4, by omega⟩
/-- an index within -/
theorem atI_lt {α : Type} {xs : List α} {i : Int} (h0 : 0 ≤ i) (h1 : i < xs.length) : ∃ x, atI xs i = some x ∧ x ∈ xs := by
  have hlt : i.toNat < xs.length := by omega
  refine ⟨xs[i.toNat], ?_, List.getElem_mem hlt⟩
  unfold atI ixN
  rw [if_pos h0, if_pos h1]
  simp [hlt]
theorem bx_ix_in {xs : List D} {i : Int} {Q : D → Prop} (h0 : 0 ≤ i) (h1 : i < xs.length) (h : ∀ d ∈ xs, Q d) : ∃ c, dIx (.list xs) (.int i) = some c ∧ Q c := by
  obtain ⟨d, e, m⟩ := atI_lt h0 h1
  exact bx_ix_lst e (h d m)
end Dn
namespace Dn
open PySem PySem.Spec PyProof.Rows L2 TL
def abc : Str := "abcdefghijklmnopqrstuvwxyz"
def Lt (s : Str) : Prop := ∃ c, s = ⟨#[c]⟩ ∧ 97 ≤ c ∧ c ≤ 122
theorem Lt.ok {s : Str} (h : Lt s) : Ok 1 s := by
  obtain ⟨c, rfl, h1, h2⟩ := h
  exact Ok.one (by omega)
def Nm (x : Str) : Prop := 2 ≤ x.length ∧ x.length ≤ 8 ∧ (∀ c ∈ tl x, 97 ≤ c ∧ c ≤ 122) ∧ (tl x).head? = some 113
theorem Nm.ok {x : Str} (h : Nm x) : Ok 8 x := ⟨h.2.1, fun c hc => by have := h.2.2.1 c hc; omega⟩
theorem ixN_in {n : Nat} {i : Int} (h0 : 0 ≤ i) (h1 : i < n) : ixN n i = some i.toNat := by
  unfold ixN
  rw [if_pos h0, if_pos h1]
theorem rngD_at {a : Int} {n i : Nat} {d : D} (h : (rngD a n)[i]? = some d) : d = .int (a + i) ∧ i < n := by
  unfold rngD at h
  rw [List.getElem?_map] at h
  cases q : (List.range n)[i]? with
  | none => rw [q] at h; cases h
  | some k =>
    rw [q] at h
    have hk := List.getElem?_range (n := n) (i := i)
    by_cases hi : i < n
    · rw [List.getElem?_range hi] at q
      cases q
      cases h
      exact ⟨rfl, hi⟩
    · rw [List.getElem?_eq_none (by simp; omega)] at q
      cases q
theorem rngD_length {a : Int} {n : Nat} : (rngD a n).length = n := by simp [rngD]
theorem lt_flat : ∀ ss : List Str, (∀ s ∈ ss, Lt s) → (ss.flatMap tl).length = ss.length ∧ ∀ c ∈ ss.flatMap tl, 97 ≤ c ∧ c ≤ 122
  | [], _ => ⟨rfl, fun c hc => nomatch hc⟩
  | s :: r, h => by
    obtain ⟨c, rfl, h1, h2⟩ := h s List.mem_cons_self
    obtain ⟨i1, i2⟩ := lt_flat r fun t ht => h t (List.mem_cons_of_mem _ ht)
    rw [List.flatMap_cons]
    refine ⟨by rw [List.length_append, i1]; simp [tl]; omega, fun d hd => ?_⟩
    rcases List.mem_append.mp hd with z | z
    · simp [tl] at z
      omega
    · exact i2 d z
end Dn
namespace Ds
open PySem PySem.Spec PyProof.Rows L2 Dn
abbrev Ev := List Cl
abbrev St := List Ob
/-- a run: what holds behind it, Y where it raises -/
@[irreducible] def RunX {α : Type} (Y : Exn → Ev → St → Prop) (m : M α) (e : Ev) (s : St) (Q : α → Ev → St → Prop) : Prop := match m ⟨e, s⟩ with
  | .ok a x => Q a x.e x.s
  | .exc y x => Y y x.e x.s
  | .bad => False
@[irreducible] def FRunX (Y : Exn → St → Prop) (F : Fn) (as : Ev) (s : St) (Q : Cl → St → Prop) : Prop := match F as s with
  | .ok c s' => Q c s'
  | .exc y s' => Y y s'
  | .bad => False
def NoY : Exn → Ev → St → Prop := fun _ _ _ => False
def NoF : Exn → St → Prop := fun _ _ => False
abbrev Run {α : Type} (m : M α) (e : Ev) (s : St) (Q : α → Ev → St → Prop) : Prop := RunX NoY m e s Q
abbrev FRun (F : Fn) (as : Ev) (s : St) (Q : Cl → St → Prop) : Prop := FRunX NoF F as s Q
section
variable {α β : Type} {e : Ev} {s : St} {m : M D} {Y : Exn → Ev → St → Prop} {YF : Exn → St → Prop}
theorem Run.i {m : M α} {Q : α → Ev → St → Prop} (h : match m ⟨e, s⟩ with
  | .ok a x => Q a x.e x.s
  | .exc y x => Y y x.e x.s
  | .bad => False) : RunX Y m e s Q := by unfold RunX; exact h
theorem run_pure {a : α} {Q : α → Ev → St → Prop} (h : Q a e s) : RunX Y (mPure a) e s Q := Run.i h
instance {a : α} {Q : α → Ev → St → Prop} : Step (RunX Y (mPure a) e s Q) (Q a e s) := ⟨run_pure⟩
theorem RunX.mono {m : M α} {Q Q' : α → Ev → St → Prop} (h : RunX Y m e s Q) (k : ∀ a e' s', Q a e' s' → Q' a e' s') : RunX Y m e s Q' := by
  unfold RunX at *
  cases q : m ⟨e, s⟩ with
  | ok a x => rw [q] at h; exact k a x.e x.s h
  | exc y x => rw [q] at h; exact h
  | bad => rw [q] at h; exact h
theorem FRunX.mono {F : Fn} {as : Ev} {Q Q' : Cl → St → Prop} (h : FRunX YF F as s Q) (k : ∀ a s', Q a s' → Q' a s') : FRunX YF F as s Q' := by
  unfold FRunX at *
  cases q : F as s with
  | ok a x => rw [q] at h; exact k a x h
  | exc y x => rw [q] at h; exact h
  | bad => rw [q] at h; exact h
theorem FRunX.to {F : Fn} {as : Ev} {Q : Cl → St → Prop} (h : FRunX NoF F as s Q) : ∃ c s', F as s = .ok c s' ∧ Q c s' := by
  unfold FRunX at h
  cases q : F as s with
  | ok a x => rw [q] at h; exact ⟨a, x, rfl, h⟩
  | exc y x => rw [q] at h; exact h.elim
  | bad => rw [q] at h; exact h.elim
theorem run_bind {m : M α} {f : α → M β} {Q : β → Ev → St → Prop} (h : RunX Y m e s fun a e' s' => RunX Y (f a) e' s' Q) : RunX Y (mBind m f) e s Q := by
  unfold RunX at *
  unfold mBind
  cases q : m ⟨e, s⟩ with
  | ok a x => rw [q] at h; exact h
  | exc y x => rw [q] at h; exact h
  | bad => rw [q] at h; exact h
theorem run_opt {o : Option α} {Q : α → Ev → St → Prop} (h : ∃ a, o = some a ∧ Q a e s) : RunX Y (mOpt o) e s Q := by
  obtain ⟨a, h1, h2⟩ := h
  subst h1
  exact Run.i h2
theorem run_optB {o : Option α} {f : α → M β} {Q : β → Ev → St → Prop} (h : ∃ a, o = some a ∧ RunX Y (f a) e s Q) : RunX Y (mBind (mOpt o) f) e s Q := run_bind (run_opt h)
theorem run_var {i : Nat} {d : D} {Q : D → Ev → St → Prop} (h : e[i]? = some (Cl.sh d)) (k : Q d e s) : RunX Y (mVar i) e s Q := by
  unfold RunX mVar
  dsimp only
  rw [h]
  exact k
theorem run_lv {i l : Nat} {Q : Nat → Ev → St → Prop} (h : e[i]? = some (Cl.lo l)) (k : Q l e s) : RunX Y (mLV i) e s Q := by
  unfold RunX mLV
  dsimp only
  rw [h]
  exact k
theorem run_clD {i : Nat} {d : D} {Q : Cl → Ev → St → Prop} (h : e[i]? = some (Cl.sh d)) (k : Q (.sh d) e s) : RunX Y (mCl i) e s Q := by
  unfold RunX mCl
  dsimp only
  rw [h]
  exact k
theorem run_clL {i l : Nat} {Q : Cl → Ev → St → Prop} (h : e[i]? = some (Cl.lo l)) (k : Q (.lo l) e s) : RunX Y (mCl i) e s Q := by
  unfold RunX mCl
  dsimp only
  rw [h]
  exact k
theorem run_sh {Q : Cl → Ev → St → Prop} (h : RunX Y m e s fun d e' s' => Q (.sh d) e' s') : RunX Y (mSh m) e s Q := run_bind (h.mono fun _ _ _ h => run_pure h)
instance {Q : Cl → Ev → St → Prop} : Step (RunX Y (mSh m) e s Q) (RunX Y m e s fun d e' s' => Q (.sh d) e' s') := ⟨run_sh⟩
theorem run_lo {m : M Nat} {Q : Cl → Ev → St → Prop} (h : RunX Y m e s fun d e' s' => Q (.lo d) e' s') : RunX Y (mLo m) e s Q := run_bind (h.mono fun _ _ _ h => run_pure h)
instance {m : M Nat} {Q : Cl → Ev → St → Prop} : Step (RunX Y (mLo m) e s Q) (RunX Y m e s fun d e' s' => Q (.lo d) e' s') := ⟨run_lo⟩
theorem run_d {m : M Cl} {Q : D → Ev → St → Prop} (h : RunX Y m e s fun c e' s' => ∃ d, toD c = some d ∧ Q d e' s') : RunX Y (mD m) e s Q := run_bind (h.mono fun _ _ _ h => run_opt h)
instance {m : M Cl} {Q : D → Ev → St → Prop} : Step (RunX Y (mD m) e s Q) (RunX Y m e s fun c e' s' => ∃ d, toD c = some d ∧ Q d e' s') := ⟨run_d⟩
theorem run_l {m : M Cl} {Q : Nat → Ev → St → Prop} (h : RunX Y m e s fun c e' s' => ∃ d, toL c = some d ∧ Q d e' s') : RunX Y (mL m) e s Q := run_bind (h.mono fun _ _ _ h => run_opt h)
instance {m : M Cl} {Q : Nat → Ev → St → Prop} : Step (RunX Y (mL m) e s Q) (RunX Y m e s fun c e' s' => ∃ d, toL c = some d ∧ Q d e' s') := ⟨run_l⟩
theorem run_c {d : D} {Q : D → Ev → St → Prop} (k : Q d e s) : RunX Y (mC d) e s Q := run_pure k
instance {d : D} {Q : D → Ev → St → Prop} : Step (RunX Y (mC d) e s Q) (Q d e s) := ⟨run_c⟩
theorem run_bin {g : D → D → Option D} {ma mb : M D} {Q : D → Ev → St → Prop} (h : RunX Y ma e s fun d e1 s1 => RunX Y mb e1 s1 fun c e2 s2 => ∃ r, g d c = some r ∧ Q r e2 s2) : RunX Y (mBin g ma mb) e s Q :=
  run_bind (h.mono fun _ _ _ h => run_bind (h.mono fun _ _ _ h => run_opt h))
instance {g : D → D → Option D} {ma mb : M D} {Q : D → Ev → St → Prop} : Step (RunX Y (mBin g ma mb) e s Q) (RunX Y ma e s fun d e1 s1 => RunX Y mb e1 s1 fun c e2 s2 => ∃ r, g d c = some r ∧ Q r e2 s2) := ⟨run_bin⟩
theorem run_test {Q : Bool → Ev → St → Prop} (h : RunX Y m e s fun d e1 s1 => ∃ b, toB d = some b ∧ Q b e1 s1) : RunX Y (mTest m) e s Q := run_bind (h.mono fun _ _ _ h => run_opt h)
instance {Q : Bool → Ev → St → Prop} : Step (RunX Y (mTest m) e s Q) (RunX Y m e s fun d e1 s1 => ∃ b, toB d = some b ∧ Q b e1 s1) := ⟨run_test⟩
theorem run_chain {g g' : D → D → Option D} {ma mb mc : M D} {Q : D → Ev → St → Prop} (h : RunX Y ma e s fun d e1 s1 => RunX Y mb e1 s1 fun c e2 s2 => ∃ r, g d c = some r ∧ ∃ b, toB r = some b ∧ (b = true → RunX Y mc e2 s2 fun f e3 s3 => ∃ r, g' c f = some r ∧ Q r e3 s3) ∧ (b = false → Q (.bool false) e2 s2)) : RunX Y (mChain g g' ma mb mc) e s Q :=
  run_bind (h.mono fun d _ _ h => run_bind (h.mono fun c _ _ ⟨r, h1, b, h2, h3, h4⟩ => run_optB ⟨b, by rw [h1]; exact h2, by
    cases b with
    | true => exact run_bind ((h3 rfl).mono fun _ _ _ h => run_opt h)
    | false => exact run_pure (h4 rfl)⟩))
instance {g g' : D → D → Option D} {ma mb mc : M D} {Q : D → Ev → St → Prop} : Step (RunX Y (mChain g g' ma mb mc) e s Q) (RunX Y ma e s fun d e1 s1 => RunX Y mb e1 s1 fun c e2 s2 => ∃ r, g d c = some r ∧ ∃ b, toB r = some b ∧ (b = true → RunX Y mc e2 s2 fun f e3 s3 => ∃ r, g' c f = some r ∧ Q r e3 s3) ∧ (b = false → Q (.bool false) e2 s2)) := ⟨run_chain⟩
theorem run_ag0 {Q : List Cl → Ev → St → Prop} (k : Q [] e s) : RunX Y (evA []) e s Q := Run.i k
instance {Q : List Cl → Ev → St → Prop} : Step (RunX Y (evA []) e s Q) (Q [] e s) := ⟨run_ag0⟩
theorem run_agC {m : M Cl} {as : List (M Cl)} {Q : List Cl → Ev → St → Prop} (h : RunX Y m e s fun c e1 s1 => RunX Y (evA as) e1 s1 fun cs e2 s2 => Q (c :: cs) e2 s2) : RunX Y (evA (m :: as)) e s Q := run_bind (h.mono fun _ _ _ h => run_bind (h.mono fun _ _ _ h => run_pure h))
instance {m : M Cl} {as : List (M Cl)} {Q : List Cl → Ev → St → Prop} : Step (RunX Y (evA (m :: as)) e s Q) (RunX Y m e s fun c e1 s1 => RunX Y (evA as) e1 s1 fun cs e2 s2 => Q (c :: cs) e2 s2) := ⟨run_agC⟩
theorem run_callB {g : List D → Option D} {as : List (M Cl)} {Q : D → Ev → St → Prop} (h : RunX Y (evA as) e s fun cs e1 s1 => ∃ ds, shL cs = some ds ∧ ∃ c, g ds = some c ∧ Q c e1 s1) : RunX Y (mCallB g as) e s Q :=
  run_bind (h.mono fun cs _ _ ⟨ds, h1, c, h2, h3⟩ => run_opt ⟨c, by rw [h1]; exact h2, h3⟩)
instance {g : List D → Option D} {as : List (M Cl)} {Q : D → Ev → St → Prop} : Step (RunX Y (mCallB g as) e s Q) (RunX Y (evA as) e s fun cs e1 s1 => ∃ ds, shL cs = some ds ∧ ∃ c, g ds = some c ∧ Q c e1 s1) := ⟨run_callB⟩
theorem run_callC {g : List D → Option D} {as : List (M Cl)} {Q : D → Ev → St → Prop} (h : RunX Y (evA as) e s fun cs e1 s1 => ∃ ds, snaps s1 cs = some ds ∧ ∃ c, g ds = some c ∧ flatD c = true ∧ Q c e1 s1) : RunX Y (mCallC g as) e s Q :=
  run_bind (h.mono fun cs _ _ ⟨ds, h1, c, h2, h3, h4⟩ => Run.i (by
    dsimp only
    rw [h1, Option.bind_some, h2]
    dsimp only
    rw [if_pos h3]
    exact h4))
instance {g : List D → Option D} {as : List (M Cl)} {Q : D → Ev → St → Prop} : Step (RunX Y (mCallC g as) e s Q) (RunX Y (evA as) e s fun cs e1 s1 => ∃ ds, snaps s1 cs = some ds ∧ ∃ c, g ds = some c ∧ flatD c = true ∧ Q c e1 s1) := ⟨run_callC⟩
theorem run_call {F : Fn} {as : List (M Cl)} {Q : Cl → Ev → St → Prop} (h : RunX Y (evA as) e s fun cs e1 s1 => FRunX NoF F cs s1 fun c s2 => Q c e1 s2) : RunX Y (mCall F as) e s Q :=
  run_bind (h.mono fun cs e1 s1 h => Run.i (by
    obtain ⟨c, s2, h1, h2⟩ := h.to
    dsimp only
    rw [h1]
    exact h2))
instance {F : Fn} {as : List (M Cl)} {Q : Cl → Ev → St → Prop} : Step (RunX Y (mCall F as) e s Q) (RunX Y (evA as) e s fun cs e1 s1 => FRunX NoF F cs s1 fun c s2 => Q c e1 s2) := ⟨run_call⟩
theorem run_ixC {m : M D} {mc : M Cl} {Q : Cl → Ev → St → Prop} (h : RunX Y mc e s fun c e1 s1 => RunX Y m e1 s1 fun i e2 s2 => ∃ k, ixC s2 c i = some k ∧ Q k e2 s2) : RunX Y (mIxC mc m) e s Q :=
  run_bind (h.mono fun c e1 s1 h => run_bind (h.mono fun i e2 s2 ⟨k, h1, h2⟩ => Run.i (by
    dsimp only
    rw [h1]
    exact h2)))
instance {m : M D} {mc : M Cl} {Q : Cl → Ev → St → Prop} : Step (RunX Y (mIxC mc m) e s Q) (RunX Y mc e s fun c e1 s1 => RunX Y m e1 s1 fun i e2 s2 => ∃ k, ixC s2 c i = some k ∧ Q k e2 s2) := ⟨run_ixC⟩
theorem run_slC {mc : M Cl} {ml mh : M (Option Int)} {Q : D → Ev → St → Prop} (h : RunX Y mc e s fun c e1 s1 => RunX Y ml e1 s1 fun l e2 s2 => RunX Y mh e2 s2 fun u e3 s3 => ∃ d, snap s3 c = some d ∧ ∃ r, dSl d l u = some r ∧ Q r e3 s3) : RunX Y (mSlC mc ml mh) e s Q :=
  run_bind (h.mono fun c _ _ h => run_bind (h.mono fun l _ _ h => run_bind (h.mono fun u _ _ ⟨d, h1, r, h2, h3⟩ => Run.i (by
    dsimp only
    rw [h1]
    dsimp only
    rw [h2]
    exact h3))))
instance {mc : M Cl} {ml mh : M (Option Int)} {Q : D → Ev → St → Prop} : Step (RunX Y (mSlC mc ml mh) e s Q) (RunX Y mc e s fun c e1 s1 => RunX Y ml e1 s1 fun l e2 s2 => RunX Y mh e2 s2 fun u e3 s3 => ∃ d, snap s3 c = some d ∧ ∃ r, dSl d l u = some r ∧ Q r e3 s3) := ⟨run_slC⟩
theorem run_sl {ml mh : M (Option Int)} {Q : D → Ev → St → Prop} (h : RunX Y m e s fun d e1 s1 => RunX Y ml e1 s1 fun l e2 s2 => RunX Y mh e2 s2 fun u e3 s3 => ∃ c, dSl d l u = some c ∧ Q c e3 s3) : RunX Y (mSl m ml mh) e s Q := run_bind (h.mono fun _ _ _ h => run_bind (h.mono fun _ _ _ h => run_bind (h.mono fun _ _ _ h => run_opt h)))
instance {ml mh : M (Option Int)} {Q : D → Ev → St → Prop} : Step (RunX Y (mSl m ml mh) e s Q) (RunX Y m e s fun d e1 s1 => RunX Y ml e1 s1 fun l e2 s2 => RunX Y mh e2 s2 fun u e3 s3 => ∃ c, dSl d l u = some c ∧ Q c e3 s3) := ⟨run_sl⟩
theorem run_part {Q : Option Int → Ev → St → Prop} (h : RunX Y m e s fun d e1 s1 => ∃ c, toI d = some c ∧ Q c e1 s1) : RunX Y (mPart m) e s Q := run_bind (h.mono fun _ _ _ h => run_opt h)
instance {Q : Option Int → Ev → St → Prop} : Step (RunX Y (mPart m) e s Q) (RunX Y m e s fun d e1 s1 => ∃ c, toI d = some c ∧ Q c e1 s1) := ⟨run_part⟩
theorem run_noPart {Q : Option Int → Ev → St → Prop} (h : Q none e s) : RunX Y mNoPart e s Q := run_pure h
instance {Q : Option Int → Ev → St → Prop} : Step (RunX Y mNoPart e s Q) (Q none e s) := ⟨run_noPart⟩
theorem run_isi {Tn : String} {Q : D → Ev → St → Prop} (h : RunX Y m e s fun d e1 s1 => ∃ b, kitB (tyD d) Tn = some b ∧ Q (.bool b) e1 s1) : RunX Y (mIsi Tn m) e s Q :=
  run_bind (h.mono fun d _ _ ⟨b, h1, h2⟩ => run_opt ⟨_, by rw [h1]; rfl, h2⟩)
instance {Tn : String} {Q : D → Ev → St → Prop} : Step (RunX Y (mIsi Tn m) e s Q) (RunX Y m e s fun d e1 s1 => ∃ b, kitB (tyD d) Tn = some b ∧ Q (.bool b) e1 s1) := ⟨run_isi⟩
theorem run_m1 {g : Str → List D → Option D} {mo : M D} {Q : D → Ev → St → Prop} (h : RunX Y mo e s fun d e1 s1 => ∃ z, toS d = some z ∧ RunX Y m e1 s1 fun a e2 s2 => ∃ c, g z [a] = some c ∧ Q c e2 s2) : RunX Y (mM1 g mo m) e s Q :=
  run_bind (h.mono fun _ _ _ ⟨z, h1, h2⟩ => run_optB ⟨z, h1, run_bind (h2.mono fun _ _ _ h => run_opt h)⟩)
instance {g : Str → List D → Option D} {mo : M D} {Q : D → Ev → St → Prop} : Step (RunX Y (mM1 g mo m) e s Q) (RunX Y mo e s fun d e1 s1 => ∃ z, toS d = some z ∧ RunX Y m e1 s1 fun a e2 s2 => ∃ c, g z [a] = some c ∧ Q c e2 s2) := ⟨run_m1⟩
theorem run_m1C {g : Str → List D → Option D} {mo : M D} {mc : M Cl} {Q : D → Ev → St → Prop} (h : RunX Y mo e s fun d e1 s1 => ∃ z, toS d = some z ∧ RunX Y mc e1 s1 fun c e2 s2 => ∃ d, snap s2 c = some d ∧ ∃ r, g z [d] = some r ∧ flatD r = true ∧ Q r e2 s2) : RunX Y (mM1C g mo mc) e s Q :=
  run_bind (h.mono fun _ _ _ ⟨z, h1, h2⟩ => run_optB ⟨z, h1, run_bind (h2.mono fun c _ _ ⟨d, h3, r, h4, h5, h6⟩ => Run.i (by
    dsimp only
    rw [h3, Option.bind_some, h4]
    dsimp only
    rw [if_pos h5]
    exact h6))⟩)
instance {g : Str → List D → Option D} {mo : M D} {mc : M Cl} {Q : D → Ev → St → Prop} : Step (RunX Y (mM1C g mo mc) e s Q) (RunX Y mo e s fun d e1 s1 => ∃ z, toS d = some z ∧ RunX Y mc e1 s1 fun c e2 s2 => ∃ d, snap s2 c = some d ∧ ∃ r, g z [d] = some r ∧ flatD r = true ∧ Q r e2 s2) := ⟨run_m1C⟩
theorem run_binC {g : D → D → Option D} {mc mk : M Cl} {Q : D → Ev → St → Prop} (h : RunX Y mc e s fun c e1 s1 => RunX Y mk e1 s1 fun k e2 s2 => ∃ a b, snap s2 c = some a ∧ snap s2 k = some b ∧ ∃ r, g a b = some r ∧ flatD r = true ∧ Q r e2 s2) : RunX Y (mBinC g mc mk) e s Q :=
  run_bind (h.mono fun _ _ _ h => run_bind (h.mono fun _ _ _ ⟨a, b, h1, h2, r, h3, h4, h5⟩ => Run.i (by
    dsimp only
    rw [h1, h2, Option.bind_some, Option.bind_some, h3]
    dsimp only
    rw [if_pos h4]
    exact h5)))
instance {g : D → D → Option D} {mc mk : M Cl} {Q : D → Ev → St → Prop} : Step (RunX Y (mBinC g mc mk) e s Q) (RunX Y mc e s fun c e1 s1 => RunX Y mk e1 s1 fun k e2 s2 => ∃ a b, snap s2 c = some a ∧ snap s2 k = some b ∧ ∃ r, g a b = some r ∧ flatD r = true ∧ Q r e2 s2) := ⟨run_binC⟩
theorem run_shs {as : List (M Cl)} {Q : List D → Ev → St → Prop} (h : RunX Y (evA as) e s fun cs e1 s1 => ∃ ds, shL cs = some ds ∧ ds.length ≤ sizeLine ∧ Q ds e1 s1) : RunX Y (mShs as) e s Q :=
  run_bind (h.mono fun gs _ _ ⟨ds, h1, h2, h3⟩ => run_opt ⟨ds, by rw [h1]; simp [Option.filter, h2], h3⟩)
theorem run_tup {as : List (M Cl)} {Q : D → Ev → St → Prop} (h : RunX Y (evA as) e s fun cs e1 s1 => ∃ ds, shL cs = some ds ∧ ds.length ≤ sizeLine ∧ Q (.tuple ds) e1 s1) : RunX Y (mTup as) e s Q := run_bind (run_shs (h.mono fun _ _ _ ⟨ds, a, b, c⟩ => ⟨ds, a, b, run_pure c⟩))
instance {as : List (M Cl)} {Q : D → Ev → St → Prop} : Step (RunX Y (mTup as) e s Q) (RunX Y (evA as) e s fun cs e1 s1 => ∃ ds, shL cs = some ds ∧ ds.length ≤ sizeLine ∧ Q (.tuple ds) e1 s1) := ⟨run_tup⟩
theorem run_lst {as : List (M Cl)} {Q : D → Ev → St → Prop} (h : RunX Y (evA as) e s fun cs e1 s1 => ∃ ds, shL cs = some ds ∧ ds.length ≤ sizeLine ∧ Q (.list ds) e1 s1) : RunX Y (mLst as) e s Q := run_bind (run_shs (h.mono fun _ _ _ ⟨ds, a, b, c⟩ => ⟨ds, a, b, run_pure c⟩))
instance {as : List (M Cl)} {Q : D → Ev → St → Prop} : Step (RunX Y (mLst as) e s Q) (RunX Y (evA as) e s fun cs e1 s1 => ∃ ds, shL cs = some ds ∧ ds.length ≤ sizeLine ∧ Q (.list ds) e1 s1) := ⟨run_lst⟩
theorem run_lsO {as : List (M Cl)} {Q : List Cl → Ev → St → Prop} (h : RunX Y (evA as) e s fun cs e1 s1 => cs.length ≤ sizeLine ∧ Q cs e1 s1) : RunX Y (mLsO as) e s Q := run_bind (h.mono fun cs _ _ ⟨a, b⟩ => run_opt ⟨cs, if_pos a, b⟩)
instance {as : List (M Cl)} {Q : List Cl → Ev → St → Prop} : Step (RunX Y (mLsO as) e s Q) (RunX Y (evA as) e s fun cs e1 s1 => cs.length ≤ sizeLine ∧ Q cs e1 s1) := ⟨run_lsO⟩
theorem run_fr {m : M (List Cl)} {Q : D → Ev → St → Prop} (h : RunX Y m e s fun cs e1 s1 => ∃ ds, shL cs = some ds ∧ Q (.list ds) e1 s1) : RunX Y (mFr m) e s Q := run_bind (h.mono fun cs _ _ ⟨ds, a, b⟩ => run_opt ⟨_, by rw [a]; rfl, b⟩)
instance {m : M (List Cl)} {Q : D → Ev → St → Prop} : Step (RunX Y (mFr m) e s Q) (RunX Y m e s fun cs e1 s1 => ∃ ds, shL cs = some ds ∧ Q (.list ds) e1 s1) := ⟨run_fr⟩
theorem run_new {m : M (List Cl)} {Q : Nat → Ev → St → Prop} (h : RunX Y m e s fun cs e1 s1 => Q s1.length e1 (s1 ++ [.lst cs])) : RunX Y (mNew m) e s Q := run_bind (h.mono fun cs _ _ h => Run.i h)
instance {m : M (List Cl)} {Q : Nat → Ev → St → Prop} : Step (RunX Y (mNew m) e s Q) (RunX Y m e s fun cs e1 s1 => Q s1.length e1 (s1 ++ [.lst cs])) := ⟨run_new⟩
theorem run_seal {m : M Nat} {Q : D → Ev → St → Prop} (h : RunX Y m e s fun l e1 s1 => ∃ xs ds, s1[l]? = some (.lst xs) ∧ shL xs = some ds ∧ Q (.list ds) e1 (s1.set l .gone)) : RunX Y (mSeal m) e s Q :=
  run_bind (h.mono fun l _ _ ⟨xs, ds, h1, h2, h3⟩ => Run.i (by
    dsimp only
    rw [h1]
    dsimp only
    rw [h2]
    exact h3))
instance {m : M Nat} {Q : D → Ev → St → Prop} : Step (RunX Y (mSeal m) e s Q) (RunX Y m e s fun l e1 s1 => ∃ xs ds, s1[l]? = some (.lst xs) ∧ shL xs = some ds ∧ Q (.list ds) e1 (s1.set l .gone)) := ⟨run_seal⟩
theorem run_listOf {mc : M Cl} {Q : List Cl → Ev → St → Prop} (h : RunX Y mc e s fun c e1 s1 => ∃ d xs, snap s1 c = some d ∧ itemsD d = some xs ∧ Q (xs.map Cl.sh) e1 s1) : RunX Y (mListOf mc) e s Q :=
  run_bind (run_agC (h.mono fun c _ s1 ⟨d, xs, h1, h2, h3⟩ => run_ag0 (Run.i (by
    dsimp only
    have : snaps s1 [c] = some [d] := by unfold snaps; rw [h1]; rfl
    rw [this]
    dsimp only
    rw [h2]
    exact h3))))
instance {mc : M Cl} {Q : List Cl → Ev → St → Prop} : Step (RunX Y (mListOf mc) e s Q) (RunX Y mc e s fun c e1 s1 => ∃ d xs, snap s1 c = some d ∧ itemsD d = some xs ∧ Q (xs.map Cl.sh) e1 s1) := ⟨run_listOf⟩
theorem run_tupOf {mc : M Cl} {Q : D → Ev → St → Prop} (h : RunX Y mc e s fun c e1 s1 => ∃ d xs, snap s1 c = some d ∧ itemsD d = some xs ∧ Q (.tuple xs) e1 s1) : RunX Y (mTupOf mc) e s Q :=
  run_bind (run_agC (h.mono fun c _ s1 ⟨d, xs, h1, h2, h3⟩ => run_ag0 (Run.i (by
    dsimp only
    have : snaps s1 [c] = some [d] := by unfold snaps; rw [h1]; rfl
    rw [this]
    dsimp only
    rw [h2]
    exact h3))))
instance {mc : M Cl} {Q : D → Ev → St → Prop} : Step (RunX Y (mTupOf mc) e s Q) (RunX Y mc e s fun c e1 s1 => ∃ d xs, snap s1 c = some d ∧ itemsD d = some xs ∧ Q (.tuple xs) e1 s1) := ⟨run_tupOf⟩
theorem run_catO {mc mk : M Cl} {Q : List Cl → Ev → St → Prop} (h : RunX Y mc e s fun c e1 s1 => RunX Y mk e1 s1 fun k e2 s2 => ∃ xs ys, snap s2 c = some (.list xs) ∧ snap s2 k = some (.list ys) ∧ xs.length + ys.length ≤ sizeLine ∧ Q ((xs ++ ys).map Cl.sh) e2 s2) : RunX Y (mCatO mc mk) e s Q :=
  run_bind (h.mono fun _ _ _ h => run_bind (h.mono fun _ _ _ ⟨xs, ys, h1, h2, h3, h4⟩ => Run.i (by
    dsimp only
    rw [h1, h2]
    dsimp only
    rw [if_pos h3]
    exact h4)))
instance {mc mk : M Cl} {Q : List Cl → Ev → St → Prop} : Step (RunX Y (mCatO mc mk) e s Q) (RunX Y mc e s fun c e1 s1 => RunX Y mk e1 s1 fun k e2 s2 => ∃ xs ys, snap s2 c = some (.list xs) ∧ snap s2 k = some (.list ys) ∧ xs.length + ys.length ≤ sizeLine ∧ Q ((xs ++ ys).map Cl.sh) e2 s2) := ⟨run_catO⟩
theorem run_texts {f : List Str → D} {mc : M Cl} {Q : D → Ev → St → Prop} (h : RunX Y mc e s fun c e1 s1 => ∃ d xs ts, snap s1 c = some d ∧ itemsD d = some xs ∧ toSs xs = some ts ∧ ts.length + 1 < scanBound ∧ Q (f (metT ts)) e1 s1) : RunX Y (mTexts f mc) e s Q :=
  run_bind (h.mono fun c _ _ ⟨d, xs, ts, h1, h2, h3, h4, h5⟩ => Run.i (by
    dsimp only
    rw [h1, Option.bind_some, h2, Option.bind_some, h3]
    dsimp only
    rw [if_pos h4]
    exact h5))
instance {f : List Str → D} {mc : M Cl} {Q : D → Ev → St → Prop} : Step (RunX Y (mTexts f mc) e s Q) (RunX Y mc e s fun c e1 s1 => ∃ d xs ts, snap s1 c = some d ∧ itemsD d = some xs ∧ toSs xs = some ts ∧ ts.length + 1 < scanBound ∧ Q (f (metT ts)) e1 s1) := ⟨run_texts⟩
theorem run_kin {neg : Bool} {ks : List Str} {Q : D → Ev → St → Prop} (h : RunX Y m e s fun d e1 s1 => ∃ z, toS d = some z ∧ Q (.bool (if neg then !ks.contains z else ks.contains z)) e1 s1) : RunX Y (mKIn neg ks m) e s Q := run_bind (h.mono fun _ _ _ ⟨z, h1, h2⟩ => run_opt ⟨_, by rw [h1]; rfl, h2⟩)
instance {neg : Bool} {ks : List Str} {Q : D → Ev → St → Prop} : Step (RunX Y (mKIn neg ks m) e s Q) (RunX Y m e s fun d e1 s1 => ∃ z, toS d = some z ∧ Q (.bool (if neg then !ks.contains z else ks.contains z)) e1 s1) := ⟨run_kin⟩
theorem run_dget {ml : M Nat} {mk : M D} {Q : Cl → Ev → St → Prop} (h : RunX Y ml e s fun l e1 s1 => RunX Y mk e1 s1 fun d e2 s2 => ∃ kvs k c, s2[l]? = some (.dk kvs) ∧ toK d = some k ∧ valC kvs k = some c ∧ Q c e2 s2) : RunX Y (mDGet ml mk) e s Q :=
  run_bind (h.mono fun l _ _ h => run_bind (h.mono fun d _ _ ⟨kvs, k, c, h1, h2, h3, h4⟩ => Run.i (by
    dsimp only
    rw [h1, h2]
    dsimp only
    rw [h3]
    exact h4)))
instance {ml : M Nat} {mk : M D} {Q : Cl → Ev → St → Prop} : Step (RunX Y (mDGet ml mk) e s Q) (RunX Y ml e s fun l e1 s1 => RunX Y mk e1 s1 fun d e2 s2 => ∃ kvs k c, s2[l]? = some (.dk kvs) ∧ toK d = some k ∧ valC kvs k = some c ∧ Q c e2 s2) := ⟨run_dget⟩
theorem run_dput {ml : M Nat} {mk : M D} {mc : M Cl} {Q : Fl → Ev → St → Prop} (h : RunX Y mc e s fun c e1 s1 => RunX Y ml e1 s1 fun l e2 s2 => RunX Y mk e2 s2 fun d e3 s3 => ∃ kvs k, s3[l]? = some (.dk kvs) ∧ toK d = some k ∧ kvs.length < sizeLine ∧ Q .nx e3 (s3.set l (.dk (putC kvs k c)))) : RunX Y (mDPut ml mk mc) e s Q :=
  run_bind (h.mono fun _ _ _ h => run_bind (h.mono fun _ _ _ h => run_bind (h.mono fun _ _ _ ⟨kvs, k, h1, h2, h3, h4⟩ => Run.i (by
    dsimp only
    rw [h1, h2]
    dsimp only
    rw [if_pos h3]
    exact h4))))
instance {ml : M Nat} {mk : M D} {mc : M Cl} {Q : Fl → Ev → St → Prop} : Step (RunX Y (mDPut ml mk mc) e s Q) (RunX Y mc e s fun c e1 s1 => RunX Y ml e1 s1 fun l e2 s2 => RunX Y mk e2 s2 fun d e3 s3 => ∃ kvs k, s3[l]? = some (.dk kvs) ∧ toK d = some k ∧ kvs.length < sizeLine ∧ Q .nx e3 (s3.set l (.dk (putC kvs k c)))) := ⟨run_dput⟩
theorem run_din {neg : Bool} {ml : M Nat} {mk : M D} {Q : D → Ev → St → Prop} (h : RunX Y mk e s fun d e1 s1 => RunX Y ml e1 s1 fun l e2 s2 => ∃ kvs k, s2[l]? = some (.dk kvs) ∧ toK d = some k ∧ Q (.bool (if neg then !(valC kvs k).isSome else (valC kvs k).isSome)) e2 s2) : RunX Y (mDIn neg mk ml) e s Q :=
  run_bind (h.mono fun _ _ _ h => run_bind (h.mono fun _ _ _ ⟨kvs, k, h1, h2, h3⟩ => Run.i (by
    dsimp only
    rw [h1, h2]
    exact h3)))
instance {neg : Bool} {ml : M Nat} {mk : M D} {Q : D → Ev → St → Prop} : Step (RunX Y (mDIn neg mk ml) e s Q) (RunX Y mk e s fun d e1 s1 => RunX Y ml e1 s1 fun l e2 s2 => ∃ kvs k, s2[l]? = some (.dk kvs) ∧ toK d = some k ∧ Q (.bool (if neg then !(valC kvs k).isSome else (valC kvs k).isSome)) e2 s2) := ⟨run_din⟩
theorem run_dnew {Q : Nat → Ev → St → Prop} (h : Q s.length e (s ++ [.dk []])) : RunX Y mDNew e s Q := Run.i h
instance {Q : Nat → Ev → St → Prop} : Step (RunX Y mDNew e s Q) (Q s.length e (s ++ [.dk []])) := ⟨run_dnew⟩
theorem run_p0 {Q : List (Key × Cl) → Ev → St → Prop} (k : Q [] e s) : RunX Y (evP []) e s Q := Run.i k
instance {Q : List (Key × Cl) → Ev → St → Prop} : Step (RunX Y (evP []) e s Q) (Q [] e s) := ⟨run_p0⟩
theorem run_p1 {mk : M D} {mc : M Cl} {r : List (M D × M Cl)} {Q : List (Key × Cl) → Ev → St → Prop} (h : RunX Y mk e s fun d e1 s1 => ∃ k, toK d = some k ∧ RunX Y mc e1 s1 fun c e2 s2 => RunX Y (evP r) e2 s2 fun ps e3 s3 => Q ((k, c) :: ps) e3 s3) : RunX Y (evP ((mk, mc) :: r)) e s Q :=
  run_bind (h.mono fun _ _ _ ⟨k, h1, h2⟩ => run_optB ⟨k, h1, run_bind (h2.mono fun _ _ _ h => run_bind (h.mono fun _ _ _ h => run_pure h))⟩)
instance {mk : M D} {mc : M Cl} {r : List (M D × M Cl)} {Q : List (Key × Cl) → Ev → St → Prop} : Step (RunX Y (evP ((mk, mc) :: r)) e s Q) (RunX Y mk e s fun d e1 s1 => ∃ k, toK d = some k ∧ RunX Y mc e1 s1 fun c e2 s2 => RunX Y (evP r) e2 s2 fun ps e3 s3 => Q ((k, c) :: ps) e3 s3) := ⟨run_p1⟩
theorem run_disp {ps : List (M D × M Cl)} {Q : Nat → Ev → St → Prop} (h : RunX Y (evP ps) e s fun kvs e1 s1 => kvs.length ≤ 15 ∧ Q s1.length e1 (s1 ++ [.dk (mergeC [] kvs)])) : RunX Y (mDisp ps) e s Q :=
  run_bind (h.mono fun kvs _ _ ⟨h1, h2⟩ => run_optB ⟨(), if_pos h1, Run.i h2⟩)
instance {ps : List (M D × M Cl)} {Q : Nat → Ev → St → Prop} : Step (RunX Y (mDisp ps) e s Q) (RunX Y (evP ps) e s fun kvs e1 s1 => kvs.length ≤ 15 ∧ Q s1.length e1 (s1 ++ [.dk (mergeC [] kvs)])) := ⟨run_disp⟩
theorem run_isDk {l : Nat} {Q : Nat → Ev → St → Prop} (h : ∃ kvs, s[l]? = some (.dk kvs) ∧ Q l e s) : RunX Y (isDk l) e s Q := by
  obtain ⟨kvs, h1, h2⟩ := h
  refine Run.i ?_
  unfold isDk
  dsimp only
  rw [h1]
  exact h2
theorem run_upd {ml mo : M Nat} {Q : Fl → Ev → St → Prop} (h : RunX Y ml e s fun l e1 s1 => ∃ k0, s1[l]? = some (.dk k0) ∧ RunX Y mo e1 s1 fun k e2 s2 => ∃ kvs more, s2[l]? = some (.dk kvs) ∧ s2[k]? = some (.dk more) ∧ (l ≠ k ∧ kvs.length + more.length ≤ sizeLine) ∧ Q .nx e2 (s2.set l (.dk (mergeC kvs more)))) : RunX Y (mUpd ml mo) e s Q :=
  run_bind (h.mono fun l _ _ ⟨k0, h0, h⟩ => run_bind (run_isDk ⟨k0, h0, run_bind (h.mono fun k _ _ ⟨kvs, more, h1, h2, h3, h4⟩ => Run.i (by
    dsimp only
    rw [h1, h2]
    dsimp only
    rw [if_pos h3]
    exact h4))⟩))
instance {ml mo : M Nat} {Q : Fl → Ev → St → Prop} : Step (RunX Y (mUpd ml mo) e s Q) (RunX Y ml e s fun l e1 s1 => ∃ k0, s1[l]? = some (.dk k0) ∧ RunX Y mo e1 s1 fun k e2 s2 => ∃ kvs more, s2[l]? = some (.dk kvs) ∧ s2[k]? = some (.dk more) ∧ (l ≠ k ∧ kvs.length + more.length ≤ sizeLine) ∧ Q .nx e2 (s2.set l (.dk (mergeC kvs more)))) := ⟨run_upd⟩
theorem run_isLst {l : Nat} {Q : Nat → Ev → St → Prop} (h : ∃ xs, s[l]? = some (.lst xs) ∧ Q l e s) : RunX Y (isLst l) e s Q := by
  obtain ⟨kvs, h1, h2⟩ := h
  refine Run.i ?_
  unfold isLst
  dsimp only
  rw [h1]
  exact h2
theorem run_app {ml : M Nat} {mc : M Cl} {Q : Fl → Ev → St → Prop} (h : RunX Y ml e s fun l e1 s1 => ∃ x0, s1[l]? = some (.lst x0) ∧ RunX Y mc e1 s1 fun c e2 s2 => ∃ xs, s2[l]? = some (.lst xs) ∧ xs.length < sizeLine ∧ Q .nx e2 (s2.set l (.lst (xs ++ [c])))) : RunX Y (mApp ml mc) e s Q :=
  run_bind (run_bind (h.mono fun l _ _ ⟨x0, h0, h⟩ => run_isLst ⟨x0, h0, run_bind (h.mono fun c _ _ ⟨xs, h1, h2, h3⟩ => Run.i (by
    dsimp only
    rw [h1]
    dsimp only
    rw [if_pos h2]
    exact h3))⟩))
instance {ml : M Nat} {mc : M Cl} {Q : Fl → Ev → St → Prop} : Step (RunX Y (mApp ml mc) e s Q) (RunX Y ml e s fun l e1 s1 => ∃ x0, s1[l]? = some (.lst x0) ∧ RunX Y mc e1 s1 fun c e2 s2 => ∃ xs, s2[l]? = some (.lst xs) ∧ xs.length < sizeLine ∧ Q .nx e2 (s2.set l (.lst (xs ++ [c])))) := ⟨run_app⟩
theorem run_popAt {ml : M Nat} {mi : M D} {Q : Cl → Ev → St → Prop} (h : RunX Y ml e s fun l e1 s1 => ∃ x0, s1[l]? = some (.lst x0) ∧ RunX Y mi e1 s1 fun d e2 s2 => ∃ xs n c, s2[l]? = some (.lst xs) ∧ d = .int n ∧ (0 ≤ n ∧ n < xs.length ∧ xs.length ≤ sizeLine) ∧ xs[n.toNat]? = some c ∧ Q c e2 (s2.set l (.lst (xs.eraseIdx n.toNat)))) : RunX Y (mPopAt ml mi) e s Q :=
  run_bind (run_bind (h.mono fun l _ _ ⟨x0, h0, h⟩ => run_isLst ⟨x0, h0, run_bind (h.mono fun d _ _ ⟨xs, n, c, h1, h2, h3, h4, h5⟩ => Run.i (by
    subst h2
    dsimp only
    rw [h1]
    dsimp only
    rw [if_pos h3, h4]
    exact h5))⟩))
instance {ml : M Nat} {mi : M D} {Q : Cl → Ev → St → Prop} : Step (RunX Y (mPopAt ml mi) e s Q) (RunX Y ml e s fun l e1 s1 => ∃ x0, s1[l]? = some (.lst x0) ∧ RunX Y mi e1 s1 fun d e2 s2 => ∃ xs n c, s2[l]? = some (.lst xs) ∧ d = .int n ∧ (0 ≤ n ∧ n < xs.length ∧ xs.length ≤ sizeLine) ∧ xs[n.toNat]? = some c ∧ Q c e2 (s2.set l (.lst (xs.eraseIdx n.toNat)))) := ⟨run_popAt⟩
theorem run_ext {ml : M Nat} {mc : M Cl} {Q : Fl → Ev → St → Prop} (h : RunX Y ml e s fun l e1 s1 => ∃ x0, s1[l]? = some (.lst x0) ∧ RunX Y mc e1 s1 fun c e2 s2 => ∃ xs d ds, s2[l]? = some (.lst xs) ∧ snap s2 c = some d ∧ itemsD d = some ds ∧ xs.length + ds.length ≤ sizeLine ∧ Q .nx e2 (s2.set l (.lst (xs ++ ds.map Cl.sh)))) : RunX Y (mExt ml mc) e s Q :=
  run_bind (run_bind (h.mono fun l _ _ ⟨x0, h0, h⟩ => run_isLst ⟨x0, h0, run_bind (h.mono fun c _ _ ⟨xs, d, ds, h1, h2, h3, h4, h5⟩ => Run.i (by
    dsimp only
    rw [h1, h2, Option.bind_some, h3]
    dsimp only
    rw [if_pos h4]
    exact h5))⟩))
instance {ml : M Nat} {mc : M Cl} {Q : Fl → Ev → St → Prop} : Step (RunX Y (mExt ml mc) e s Q) (RunX Y ml e s fun l e1 s1 => ∃ x0, s1[l]? = some (.lst x0) ∧ RunX Y mc e1 s1 fun c e2 s2 => ∃ xs d ds, s2[l]? = some (.lst xs) ∧ snap s2 c = some d ∧ itemsD d = some ds ∧ xs.length + ds.length ≤ sizeLine ∧ Q .nx e2 (s2.set l (.lst (xs ++ ds.map Cl.sh)))) := ⟨run_ext⟩
theorem run_setIx {ml : M Nat} {mi : M D} {mc : M Cl} {Q : Fl → Ev → St → Prop} (h : RunX Y mc e s fun c e1 s1 => RunX Y ml e1 s1 fun l e2 s2 => RunX Y mi e2 s2 fun d e3 s3 => ∃ xs n j, s3[l]? = some (.lst xs) ∧ d = .int n ∧ ixN xs.length n = some j ∧ Q .nx e3 (s3.set l (.lst (xs.set j c)))) : RunX Y (mSetIx ml mi mc) e s Q :=
  run_bind (h.mono fun _ _ _ h => run_bind (h.mono fun _ _ _ h => run_bind (h.mono fun _ _ _ ⟨xs, n, j, h1, h2, h3, h4⟩ => Run.i (by
    subst h2
    dsimp only
    rw [h1]
    dsimp only
    rw [h3]
    exact h4))))
instance {ml : M Nat} {mi : M D} {mc : M Cl} {Q : Fl → Ev → St → Prop} : Step (RunX Y (mSetIx ml mi mc) e s Q) (RunX Y mc e s fun c e1 s1 => RunX Y ml e1 s1 fun l e2 s2 => RunX Y mi e2 s2 fun d e3 s3 => ∃ xs n j, s3[l]? = some (.lst xs) ∧ d = .int n ∧ ixN xs.length n = some j ∧ Q .nx e3 (s3.set l (.lst (xs.set j c)))) := ⟨run_setIx⟩
theorem run_ifb {b : Bool} {m1 m2 : M α} {Q : α → Ev → St → Prop} (h1 : b = true → RunX Y m1 e s Q) (h2 : b = false → RunX Y m2 e s Q) : RunX Y (if b = true then m1 else m2) e s Q := by
  cases b with
  | true => exact h1 rfl
  | false => exact h2 rfl
theorem run_andT {t1 t2 : M Bool} {Q : Bool → Ev → St → Prop} (h : RunX Y t1 e s fun b e1 s1 => (b = true → RunX Y t2 e1 s1 Q) ∧ (b = false → Q false e1 s1)) : RunX Y (mAndT t1 t2) e s Q := run_bind (h.mono fun b _ _ h => run_ifb h.1 fun z => run_pure (h.2 z))
instance {t1 t2 : M Bool} {Q : Bool → Ev → St → Prop} : Step (RunX Y (mAndT t1 t2) e s Q) (RunX Y t1 e s fun b e1 s1 => (b = true → RunX Y t2 e1 s1 Q) ∧ (b = false → Q false e1 s1)) := ⟨run_andT⟩
theorem run_orT {t1 t2 : M Bool} {Q : Bool → Ev → St → Prop} (h : RunX Y t1 e s fun b e1 s1 => (b = true → Q true e1 s1) ∧ (b = false → RunX Y t2 e1 s1 Q)) : RunX Y (mOrT t1 t2) e s Q := run_bind (h.mono fun b _ _ h => run_ifb (fun z => run_pure (h.1 z)) h.2)
instance {t1 t2 : M Bool} {Q : Bool → Ev → St → Prop} : Step (RunX Y (mOrT t1 t2) e s Q) (RunX Y t1 e s fun b e1 s1 => (b = true → Q true e1 s1) ∧ (b = false → RunX Y t2 e1 s1 Q)) := ⟨run_orT⟩
theorem run_notT {t : M Bool} {Q : Bool → Ev → St → Prop} (h : RunX Y t e s fun b e1 s1 => Q (!b) e1 s1) : RunX Y (mNotT t) e s Q := run_bind (h.mono fun _ _ _ h => run_pure h)
instance {t : M Bool} {Q : Bool → Ev → St → Prop} : Step (RunX Y (mNotT t) e s Q) (RunX Y t e s fun b e1 s1 => Q (!b) e1 s1) := ⟨run_notT⟩
theorem run_andV {m1 m2 : M D} {Q : D → Ev → St → Prop} (h : RunX Y m1 e s fun d e1 s1 => ∃ b, toB d = some b ∧ (b = true → RunX Y m2 e1 s1 Q) ∧ (b = false → Q (.bool false) e1 s1)) : RunX Y (mAndV m1 m2) e s Q := run_bind (run_test (h.mono fun _ _ _ ⟨b, h1, h2, h3⟩ => ⟨b, h1, run_ifb h2 fun z => run_pure (h3 z)⟩))
instance {m1 m2 : M D} {Q : D → Ev → St → Prop} : Step (RunX Y (mAndV m1 m2) e s Q) (RunX Y m1 e s fun d e1 s1 => ∃ b, toB d = some b ∧ (b = true → RunX Y m2 e1 s1 Q) ∧ (b = false → Q (.bool false) e1 s1)) := ⟨run_andV⟩
theorem run_orV {m1 m2 : M D} {Q : D → Ev → St → Prop} (h : RunX Y m1 e s fun d e1 s1 => ∃ b, toB d = some b ∧ (b = true → Q (.bool true) e1 s1) ∧ (b = false → RunX Y m2 e1 s1 Q)) : RunX Y (mOrV m1 m2) e s Q := run_bind (run_test (h.mono fun _ _ _ ⟨b, h1, h2, h3⟩ => ⟨b, h1, run_ifb (fun z => run_pure (h2 z)) h3⟩))
instance {m1 m2 : M D} {Q : D → Ev → St → Prop} : Step (RunX Y (mOrV m1 m2) e s Q) (RunX Y m1 e s fun d e1 s1 => ∃ b, toB d = some b ∧ (b = true → Q (.bool true) e1 s1) ∧ (b = false → RunX Y m2 e1 s1 Q)) := ⟨run_orV⟩
theorem run_notV {Q : D → Ev → St → Prop} (h : RunX Y m e s fun d e1 s1 => ∃ b, toB d = some b ∧ Q (.bool (!b)) e1 s1) : RunX Y (mNotV m) e s Q := run_bind (run_test (h.mono fun _ _ _ ⟨b, h1, h2⟩ => ⟨b, h1, run_pure h2⟩))
instance {Q : D → Ev → St → Prop} : Step (RunX Y (mNotV m) e s Q) (RunX Y m e s fun d e1 s1 => ∃ b, toB d = some b ∧ Q (.bool (!b)) e1 s1) := ⟨run_notV⟩
theorem run_ifE {t : M Bool} {m1 m2 : M D} {Q : D → Ev → St → Prop} (h : RunX Y t e s fun b e1 s1 => (b = true → RunX Y m1 e1 s1 Q) ∧ (b = false → RunX Y m2 e1 s1 Q)) : RunX Y (mIfE t m1 m2) e s Q := run_bind (h.mono fun b _ _ h => run_ifb h.1 h.2)
instance {t : M Bool} {m1 m2 : M D} {Q : D → Ev → St → Prop} : Step (RunX Y (mIfE t m1 m2) e s Q) (RunX Y t e s fun b e1 s1 => (b = true → RunX Y m1 e1 s1 Q) ∧ (b = false → RunX Y m2 e1 s1 Q)) := ⟨run_ifE⟩
theorem run_neg {Q : D → Ev → St → Prop} (h : RunX Y m e s fun d e1 s1 => ∃ c, dNeg d = some c ∧ Q c e1 s1) : RunX Y (mNeg m) e s Q := run_bind (h.mono fun _ _ _ h => run_opt h)
instance {Q : D → Ev → St → Prop} : Step (RunX Y (mNeg m) e s Q) (RunX Y m e s fun d e1 s1 => ∃ c, dNeg d = some c ∧ Q c e1 s1) := ⟨run_neg⟩
theorem run_nx {Q : Fl → Ev → St → Prop} (h : Q .nx e s) : RunX Y mNx e s Q := run_pure h
instance {Q : Fl → Ev → St → Prop} : Step (RunX Y mNx e s Q) (Q .nx e s) := ⟨run_nx⟩
theorem run_seq {m1 m2 : M Fl} {Q : Fl → Ev → St → Prop} (h : RunX Y m1 e s fun fl e1 s1 => (fl = .nx → RunX Y m2 e1 s1 Q) ∧ (fl ≠ .nx → Q fl e1 s1)) : RunX Y (mSeq m1 m2) e s Q := by
  unfold RunX at *
  unfold mSeq
  cases q : m1 ⟨e, s⟩ with
  | ok fl x =>
    rw [q] at h
    cases fl with
    | nx =>
      have z := h.1 rfl
      exact z
    | rt c => exact h.2 (by simp)
    | bk => exact h.2 (by simp)
    | ct => exact h.2 (by simp)
  | exc y x => rw [q] at h; exact h
  | bad => rw [q] at h; exact h
instance {m1 m2 : M Fl} {Q : Fl → Ev → St → Prop} : Step (RunX Y (mSeq m1 m2) e s Q) (RunX Y m1 e s fun fl e1 s1 => (fl = .nx → RunX Y m2 e1 s1 Q) ∧ (fl ≠ .nx → Q fl e1 s1)) := ⟨run_seq⟩
theorem run_expr {m : M Cl} {Q : Fl → Ev → St → Prop} (h : RunX Y m e s fun _ e1 s1 => Q .nx e1 s1) : RunX Y (mExpr m) e s Q := run_bind (h.mono fun _ _ _ h => run_pure h)
instance {m : M Cl} {Q : Fl → Ev → St → Prop} : Step (RunX Y (mExpr m) e s Q) (RunX Y m e s fun _ e1 s1 => Q .nx e1 s1) := ⟨run_expr⟩
theorem run_ret {m : M Cl} {Q : Fl → Ev → St → Prop} (h : RunX Y m e s fun c e1 s1 => Q (.rt c) e1 s1) : RunX Y (mRet m) e s Q := run_bind (h.mono fun _ _ _ h => run_pure h)
instance {m : M Cl} {Q : Fl → Ev → St → Prop} : Step (RunX Y (mRet m) e s Q) (RunX Y m e s fun c e1 s1 => Q (.rt c) e1 s1) := ⟨run_ret⟩
theorem run_ifS {t : M Bool} {m1 m2 : M Fl} {Q : Fl → Ev → St → Prop} (h : RunX Y t e s fun b e1 s1 => (b = true → RunX Y m1 e1 s1 Q) ∧ (b = false → RunX Y m2 e1 s1 Q)) : RunX Y (mIfS t m1 m2) e s Q := run_bind (h.mono fun b _ _ h => run_ifb h.1 h.2)
instance {t : M Bool} {m1 m2 : M Fl} {Q : Fl → Ev → St → Prop} : Step (RunX Y (mIfS t m1 m2) e s Q) (RunX Y t e s fun b e1 s1 => (b = true → RunX Y m1 e1 s1 Q) ∧ (b = false → RunX Y m2 e1 s1 Q)) := ⟨run_ifS⟩
theorem run_set {i : Nat} {m : M Cl} {Q : Fl → Ev → St → Prop} (h : RunX Y m e s fun c e1 s1 => Q .nx (e1.set i c) s1) : RunX Y (mSet i m) e s Q := run_bind (h.mono fun _ _ _ h => Run.i h)
instance {i : Nat} {m : M Cl} {Q : Fl → Ev → St → Prop} : Step (RunX Y (mSet i m) e s Q) (RunX Y m e s fun c e1 s1 => Q .nx (e1.set i c) s1) := ⟨run_set⟩
theorem run_asg {g : MG Cl} {m : M Cl} {Q : Fl → Ev → St → Prop} (h : RunX Y m e s fun c e1 s1 => ∃ e', g c e1 = some e' ∧ Q .nx e' s1) : RunX Y (mAsg g m) e s Q :=
  run_bind (h.mono fun _ _ _ ⟨e', h1, h2⟩ => Run.i (by dsimp only; rw [h1]; exact h2))
instance {g : MG Cl} {m : M Cl} {Q : Fl → Ev → St → Prop} : Step (RunX Y (mAsg g m) e s Q) (RunX Y m e s fun c e1 s1 => ∃ e', g c e1 = some e' ∧ Q .nx e' s1) := ⟨run_asg⟩
theorem run_iter {Q : List D → Ev → St → Prop} (h : RunX Y m e s fun d e1 s1 => ∃ ds, dItems d = some ds ∧ Q ds e1 s1) : RunX Y (mIter m) e s Q := run_bind (h.mono fun _ _ _ h => run_opt h)
instance {Q : List D → Ev → St → Prop} : Step (RunX Y (mIter m) e s Q) (RunX Y m e s fun d e1 s1 => ∃ ds, dItems d = some ds ∧ Q ds e1 s1) := ⟨run_iter⟩
theorem run_rng1 {Q : List D → Ev → St → Prop} (h : RunX Y m e s fun d e1 s1 => ∃ ds, bRng1 d = some ds ∧ Q ds e1 s1) : RunX Y (mRng1 m) e s Q := run_bind (h.mono fun _ _ _ h => run_opt h)
instance {Q : List D → Ev → St → Prop} : Step (RunX Y (mRng1 m) e s Q) (RunX Y m e s fun d e1 s1 => ∃ ds, bRng1 d = some ds ∧ Q ds e1 s1) := ⟨run_rng1⟩
theorem run_rng2 {ma mb : M D} {Q : List D → Ev → St → Prop} (h : RunX Y ma e s fun d e1 s1 => RunX Y mb e1 s1 fun c e2 s2 => ∃ ds, bRng2 d c = some ds ∧ Q ds e2 s2) : RunX Y (mRng2 ma mb) e s Q := run_bind (h.mono fun _ _ _ h => run_bind (h.mono fun _ _ _ h => run_opt h))
instance {ma mb : M D} {Q : List D → Ev → St → Prop} : Step (RunX Y (mRng2 ma mb) e s Q) (RunX Y ma e s fun d e1 s1 => RunX Y mb e1 s1 fun c e2 s2 => ∃ ds, bRng2 d c = some ds ∧ Q ds e2 s2) := ⟨run_rng2⟩
theorem run_for {mi : M (List D)} {g : MG Cl} {mb : M Fl} {Q : Fl → Ev → St → Prop} (h : RunX Y mi e s fun ds e1 s1 => RunX Y (forL g mb ds) e1 s1 Q) : RunX Y (mFor mi g mb) e s Q := run_bind h
instance {mi : M (List D)} {g : MG Cl} {mb : M Fl} {Q : Fl → Ev → St → Prop} : Step (RunX Y (mFor mi g mb) e s Q) (RunX Y mi e s fun ds e1 s1 => RunX Y (forL g mb ds) e1 s1 Q) := ⟨run_for⟩
theorem run_forL {g : MG Cl} {mb : M Fl} {Q : Fl → Ev → St → Prop} (ds : List D) (I : Nat → Ev → St → Prop) (h0 : I 0 e s)
    (hs : ∀ (i : Nat) (d : D) (e : Ev) (s : St), ds[i]? = some d → I i e s → ∃ e1, g (.sh d) e = some e1 ∧ RunX Y mb e1 s fun fl e2 s2 => (fl = .nx ∨ fl = .ct → I (i + 1) e2 s2) ∧ (fl = .bk → Q .nx e2 s2) ∧ (∀ c, fl = .rt c → Q (.rt c) e2 s2))
    (hd : ∀ e s, I ds.length e s → Q .nx e s) : RunX Y (forL g mb ds) e s Q := by
  suffices H : ∀ (k i : Nat) (e : Ev) (s : St), i + k = ds.length → I i e s → RunX Y (forL g mb (ds.drop i)) e s Q by
    have := H ds.length 0 e s (by omega) h0
    rwa [List.drop_zero] at this
  intro k
  induction k with
  | zero =>
    intro i e s hi hI
    have e' : i = ds.length := by omega
    subst e'
    rw [List.drop_length]
    exact Run.i (hd e s hI)
  | succ k ih =>
    intro i e s hi hI
    have hlt : i < ds.length := by omega
    obtain ⟨e1, h1, h2⟩ := hs i ds[i] e s (List.getElem?_eq_getElem hlt) hI
    rw [List.drop_eq_getElem_cons hlt]
    unfold RunX forL
    dsimp only
    rw [h1]
    unfold RunX at h2
    dsimp only
    cases q : mb ⟨e1, s⟩ with
    | ok fl x =>
      rw [q] at h2
      obtain ⟨a1, a2, a3⟩ := h2
      cases fl with
      | nx => have z := ih (i + 1) x.e x.s (by omega) (a1 (.inl rfl)); unfold RunX at z; exact z
      | ct => have z := ih (i + 1) x.e x.s (by omega) (a1 (.inr rfl)); unfold RunX at z; exact z
      | bk => exact a2 rfl
      | rt c => exact a3 c rfl
    | exc y x => rw [q] at h2; exact h2
    | bad => rw [q] at h2; exact h2
theorem run_forL_nil {g : MG Cl} {mb : M Fl} {Q : Fl → Ev → St → Prop} (h : Q .nx e s) : RunX Y (forL g mb []) e s Q := Run.i h
instance {g : MG Cl} {mb : M Fl} {Q : Fl → Ev → St → Prop} : Step (RunX Y (forL g mb []) e s Q) (Q .nx e s) := ⟨run_forL_nil⟩
theorem run_comp {mi : M (List D)} {vs : List Nat} {g : MG Cl} {mt : M Bool} {me : M D} {Q : List Cl → Ev → St → Prop}
    (h : RunX Y mi e s fun ds e1 s1 => ds.length ≤ sizeLine ∧ RunX NoY (compL vs g mt me ds) (wipeE e1 vs) s1 fun ys e2 s2 => Q (ys.map Cl.sh) (backE e1 e2 vs) s2) : RunX Y (mComp mi vs g mt me) e s Q :=
  run_bind (h.mono fun ds e1 s1 ⟨h1, h2⟩ => by
    unfold RunX compE
    dsimp only
    rw [if_pos h1]
    unfold RunX at h2
    cases q : compL vs g mt me ds ⟨wipeE e1 vs, s1⟩ with
    | ok ys x => rw [q] at h2; exact h2
    | exc y x => rw [q] at h2; exact h2
    | bad => rw [q] at h2; exact h2)
instance {mi : M (List D)} {vs : List Nat} {g : MG Cl} {mt : M Bool} {me : M D} {Q : List Cl → Ev → St → Prop} : Step (RunX Y (mComp mi vs g mt me) e s Q) (RunX Y mi e s fun ds e1 s1 => ds.length ≤ sizeLine ∧ RunX NoY (compL vs g mt me ds) (wipeE e1 vs) s1 fun ys e2 s2 => Q (ys.map Cl.sh) (backE e1 e2 vs) s2) := ⟨run_comp⟩
theorem run_compL {vs : List Nat} {g : MG Cl} {mt : M Bool} {me : M D} (ds : List D) (J : Nat → List D → Ev → St → Prop) {Q : List D → Ev → St → Prop} (h0 : J 0 [] e s)
    (hs : ∀ (i : Nat) (d : D) (ys : List D) (e : Ev) (s : St), ds[i]? = some d → J i ys e s → ∃ e1, g (.sh d) e = some e1 ∧ RunX Y mt e1 s fun b e2 s2 => (b = true → RunX Y me e2 s2 fun y e3 s3 => J (i + 1) (ys ++ [y]) (wipeE e3 vs) s3) ∧ (b = false → J (i + 1) ys (wipeE e2 vs) s2))
    (hd : ∀ ys e s, J ds.length ys e s → Q ys e s) : RunX Y (compL vs g mt me ds) e s Q := by
  suffices H : ∀ (k i : Nat) (ys : List D) (e : Ev) (s : St), i + k = ds.length → J i ys e s → RunX Y (compL vs g mt me (ds.drop i)) e s fun zs e2 s2 => Q (ys ++ zs) e2 s2 by
    have := H ds.length 0 [] e s (by omega) h0
    rw [List.drop_zero] at this
    exact this.mono fun _ _ _ h => h
  intro k
  induction k with
  | zero =>
    intro i ys e s hi hJ
    have e' : i = ds.length := by omega
    subst e'
    rw [List.drop_length]
    refine Run.i ?_
    show Q (ys ++ []) e s
    rw [List.append_nil]
    exact hd ys e s hJ
  | succ k ih =>
    intro i ys e s hi hJ
    have hlt : i < ds.length := by omega
    obtain ⟨e1, h1, h2⟩ := hs i ds[i] ys e s (List.getElem?_eq_getElem hlt) hJ
    rw [List.drop_eq_getElem_cons hlt]
    have z : RunX Y (mBind mt (fun b => if b then mBind me (fun y => mBind (mWipe vs) fun _ => mBind (compL vs g mt me (ds.drop (i + 1))) fun ys => mPure (y :: ys)) else mBind (mWipe vs) fun _ => compL vs g mt me (ds.drop (i + 1)))) e1 s fun zs e2 s2 => Q (ys ++ zs) e2 s2 := by
      refine run_bind (h2.mono fun b e2 s2 h => run_ifb (fun hb => ?_) fun hb => ?_)
      · refine run_bind ((h.1 hb).mono fun y e3 s3 hJ' => run_bind (Run.i ?_))
        show RunX Y (mBind (compL vs g mt me (ds.drop (i + 1))) fun ys => mPure (y :: ys)) (wipeE e3 vs) s3 _
        refine run_bind ((ih (i + 1) _ _ _ (by omega) hJ').mono fun zs e4 s4 q => Run.i ?_)
        show Q (ys ++ (y :: zs)) e4 s4
        rw [List.append_assoc] at q
        exact q
      · refine run_bind (Run.i ?_)
        show RunX Y (compL vs g mt me (ds.drop (i + 1))) (wipeE e2 vs) s2 _
        exact ih (i + 1) _ _ _ (by omega) (h.2 hb)
    unfold RunX at z ⊢
    unfold compL
    dsimp only
    rw [h1]
    exact z
theorem run_yes {Q : Bool → Ev → St → Prop} (h : Q true e s) : RunX Y mYes e s Q := run_pure h
instance {Q : Bool → Ev → St → Prop} : Step (RunX Y mYes e s Q) (Q true e s) := ⟨run_yes⟩
theorem frun_fn {n N : Nat} {mb : M Fl} {as : Ev} {Q : Cl → St → Prop} (hn : as.length = n) (h : RunX (fun y _ s' => YF y s') mb (as ++ List.replicate (N - n) .no) s fun fl e1 s1 => (fl = .nx → Q (.sh .none) (trim s.length (.sh .none) s1)) ∧ (∀ c, fl = .rt c → Q c (trim s.length c s1)) ∧ fl ≠ .bk ∧ fl ≠ .ct) : FRunX YF (fnF n N mb) as s Q := by
  unfold FRunX fnF
  rw [if_pos hn]
  unfold RunX at h
  cases q : mb ⟨as ++ List.replicate (N - n) .no, s⟩ with
  | ok fl x =>
    rw [q] at h
    obtain ⟨h1, h2, h3, h4⟩ := h
    cases fl with
    | nx => exact h1 rfl
    | rt c => exact h2 c rfl
    | bk => exact (h3 rfl).elim
    | ct => exact (h4 rfl).elim
  | exc y x => rw [q] at h; exact h
  | bad => rw [q] at h; exact h
end
end Ds
namespace Ds
open PySem PySem.Spec PyProof.Rows L2 Dn
section
variable {A B : Prop} {C : Cl → Prop} {c : Cl}
theorem seq_nx (h : A) : (Fl.nx = .nx → A) ∧ (Fl.nx ≠ .nx → B) := ⟨fun _ => h, fun z => absurd rfl z⟩
instance  : Step ((Fl.nx = .nx → A) ∧ (Fl.nx ≠ .nx → B)) (A) := ⟨seq_nx⟩
theorem seq_rt (h : B) : (Fl.rt c = .nx → A) ∧ (Fl.rt c ≠ .nx → B) := ⟨fun z => (nomatch z), fun _ => h⟩
instance  : Step ((Fl.rt c = .nx → A) ∧ (Fl.rt c ≠ .nx → B)) (B) := ⟨seq_rt⟩
theorem fin_rt (h : C c) : (Fl.rt c = .nx → A) ∧ (∀ c', Fl.rt c = .rt c' → C c') ∧ Fl.rt c ≠ .bk ∧ Fl.rt c ≠ .ct := ⟨fun z => (nomatch z), fun s' z => by cases z; exact h, by simp, by simp⟩
instance  : Step ((Fl.rt c = .nx → A) ∧ (∀ c', Fl.rt c = .rt c' → C c') ∧ Fl.rt c ≠ .bk ∧ Fl.rt c ≠ .ct) (C c) := ⟨fin_rt⟩
theorem fin_nx (h : A) : (Fl.nx = .nx → A) ∧ (∀ c', Fl.nx = .rt c' → C c') ∧ Fl.nx ≠ .bk ∧ Fl.nx ≠ .ct := ⟨fun _ => h, fun s' z => (nomatch z), by simp, by simp⟩
instance  : Step ((Fl.nx = .nx → A) ∧ (∀ c', Fl.nx = .rt c' → C c') ∧ Fl.nx ≠ .bk ∧ Fl.nx ≠ .ct) (A) := ⟨fin_nx⟩
theorem turn_nx (h : A) : (Fl.nx = .nx ∨ Fl.nx = .ct → A) ∧ (Fl.nx = .bk → B) ∧ (∀ c', Fl.nx = .rt c' → C c') := ⟨fun _ => h, fun z => (nomatch z), fun s' z => (nomatch z)⟩
instance  : Step ((Fl.nx = .nx ∨ Fl.nx = .ct → A) ∧ (Fl.nx = .bk → B) ∧ (∀ c', Fl.nx = .rt c' → C c')) (A) := ⟨turn_nx⟩
theorem turn_ct (h : A) : (Fl.ct = .nx ∨ Fl.ct = .ct → A) ∧ (Fl.ct = .bk → B) ∧ (∀ c', Fl.ct = .rt c' → C c') := ⟨fun _ => h, fun z => (nomatch z), fun s' z => (nomatch z)⟩
instance  : Step ((Fl.ct = .nx ∨ Fl.ct = .ct → A) ∧ (Fl.ct = .bk → B) ∧ (∀ c', Fl.ct = .rt c' → C c')) (A) := ⟨turn_ct⟩
theorem turn_bk (h : B) : (Fl.bk = .nx ∨ Fl.bk = .ct → A) ∧ (Fl.bk = .bk → B) ∧ (∀ c', Fl.bk = .rt c' → C c') := ⟨fun z => by simp at z, fun _ => h, fun s' z => (nomatch z)⟩
instance  : Step ((Fl.bk = .nx ∨ Fl.bk = .ct → A) ∧ (Fl.bk = .bk → B) ∧ (∀ c', Fl.bk = .rt c' → C c')) (B) := ⟨turn_bk⟩
theorem turn_rt (h : C c) : (Fl.rt c = .nx ∨ Fl.rt c = .ct → A) ∧ (Fl.rt c = .bk → B) ∧ (∀ c', Fl.rt c = .rt c' → C c') := ⟨fun z => by simp at z, fun z => (nomatch z), fun s' z => by cases z; exact h⟩
instance  : Step ((Fl.rt c = .nx ∨ Fl.rt c = .ct → A) ∧ (Fl.rt c = .bk → B) ∧ (∀ c', Fl.rt c = .rt c' → C c')) (C c) := ⟨turn_rt⟩
end
theorem two_Tb {A B : Prop} {b : Bool} (hb : b = true) (h : A) : (b = true → A) ∧ (b = false → B) := ⟨fun _ => h, fun z => absurd (hb.symm.trans z) (by decide)⟩
theorem two_Fb {A B : Prop} {b : Bool} (hb : b = false) (h : B) : (b = true → A) ∧ (b = false → B) := ⟨fun z => absurd (hb.symm.trans z) (by decide), fun _ => h⟩
theorem trim_len {n : Nat} {c : Cl} {s : St} (h : s.length = n) : trim n c s = s := by
  unfold trim
  split
  · rw [List.take_of_length_le (by omega)]
  · rfl
theorem trim_get {n : Nat} {c : Cl} {s : St} {j : Nat} (h : j < n) : (trim n c s)[j]? = s[j]? := by
  unfold trim
  split
  · rw [List.getElem?_take_of_lt h]
  · rfl
theorem trim_ge {n : Nat} {c : Cl} {s : St} (h : n ≤ s.length) : n ≤ (trim n c s).length := trim_le h
theorem shL_map : ∀ ds : List D, shL (ds.map Cl.sh) = some ds
  | [] => rfl
  | d :: ds => by rw [List.map_cons]; unfold shL; rw [shL_map ds]; rfl
theorem snap_list {s : St} {l : Nat} {ds : List D} (h : s[l]? = some (.lst (ds.map Cl.sh))) : snap s (.lo l) = some (.list ds) := by
  show (match s[l]? with
    | some (.lst xs) => (shL xs).map PyData.list
    | _ => none) = _
  rw [h]
  dsimp only
  rw [shL_map]
  rfl
theorem set_same {s : St} {l : Nat} {o : Ob} (h : l < s.length) : (s.set l o)[l]? = some o := List.getElem?_set_self h
theorem set_other {s : St} {l j : Nat} {o : Ob} (h : j ≠ l) : (s.set l o)[j]? = s[j]? := List.getElem?_set_ne (Ne.symm h)
theorem app_old {s : St} {j : Nat} {o : Ob} (h : j < s.length) : (s ++ [o])[j]? = s[j]? := List.getElem?_append_left h
theorem app_new {s : St} {o : Ob} : (s ++ [o])[s.length]? = some o := by
  rw [List.getElem?_append_right (Nat.le_refl _), Nat.sub_self]
  rfl
theorem lt_of_at {s : St} {l : Nat} {o : Ob} (h : s[l]? = some o) : l < s.length := (List.getElem?_eq_some_iff.mp h).1
/-- x[i], a list of the store with data at i -/
theorem ixC_lo {s : St} {l : Nat} {xs : List Cl} {i : Int} {c : Cl} (h : s[l]? = some (.lst xs)) (h2 : atI xs i = some c) : ixC s (.lo l) (.int i) = some c := by
  show (match s[l]?, (PyData.int i) with
    | some (.lst xs), .int i => atI xs i
    | _, _ => none) = _
  rw [h]
  exact h2
end Ds
namespace Ds
open PySem PySem.Spec PyProof.Rows L2 Dn
section
variable {α β : Type} {e : Ev} {s : St} {m : M D} {Y : Exn → Ev → St → Prop}
theorem run_enum {Q : List D → Ev → St → Prop} (h : RunX Y m e s fun d e1 s1 => ∃ ds, dItems d = some ds ∧ Q (enumD ds) e1 s1) : RunX Y (mEnum m) e s Q :=
  run_bind (h.mono fun _ _ _ ⟨ds, a, b⟩ => run_opt ⟨_, by rw [a]; rfl, b⟩)
instance {Q : List D → Ev → St → Prop} : Step (RunX Y (mEnum m) e s Q) (RunX Y m e s fun d e1 s1 => ∃ ds, dItems d = some ds ∧ Q (enumD ds) e1 s1) := ⟨run_enum⟩
theorem run_zip {ma mb : M D} {Q : List D → Ev → St → Prop} (h : RunX Y ma e s fun d e1 s1 => RunX Y mb e1 s1 fun c e2 s2 => ∃ ds es, dItems d = some ds ∧ dItems c = some es ∧ Q (zipD ds es) e2 s2) : RunX Y (mZip ma mb) e s Q :=
  run_bind (h.mono fun _ _ _ h => run_bind (h.mono fun _ _ _ ⟨ds, es, a, b, c⟩ => run_opt ⟨_, by rw [a, b]; rfl, c⟩))
instance {ma mb : M D} {Q : List D → Ev → St → Prop} : Step (RunX Y (mZip ma mb) e s Q) (RunX Y ma e s fun d e1 s1 => RunX Y mb e1 s1 fun c e2 s2 => ∃ ds es, dItems d = some ds ∧ dItems c = some es ∧ Q (zipD ds es) e2 s2) := ⟨run_zip⟩
theorem run_rng3 {ma mb mc : M D} {Q : List D → Ev → St → Prop} (h : RunX Y ma e s fun d e1 s1 => RunX Y mb e1 s1 fun c e2 s2 => RunX Y mc e2 s2 fun k e3 s3 => ∃ ds, bRng3 d c k = some ds ∧ Q ds e3 s3) : RunX Y (mRng3 ma mb mc) e s Q :=
  run_bind (h.mono fun _ _ _ h => run_bind (h.mono fun _ _ _ h => run_bind (h.mono fun _ _ _ h => run_opt h)))
instance {ma mb mc : M D} {Q : List D → Ev → St → Prop} : Step (RunX Y (mRng3 ma mb mc) e s Q) (RunX Y ma e s fun d e1 s1 => RunX Y mb e1 s1 fun c e2 s2 => RunX Y mc e2 s2 fun k e3 s3 => ∃ ds, bRng3 d c k = some ds ∧ Q ds e3 s3) := ⟨run_rng3⟩
theorem run_kget {kvs : List (Str × D)} {Q : D → Ev → St → Prop} (h : RunX Y m e s fun d e1 s1 => ∃ z r, toS d = some z ∧ lookS kvs z = some r ∧ Q r e1 s1) : RunX Y (mKGet kvs m) e s Q :=
  run_bind (h.mono fun _ _ _ ⟨z, r, a, b, c⟩ => run_opt ⟨r, by rw [a]; exact b, c⟩)
instance {kvs : List (Str × D)} {Q : D → Ev → St → Prop} : Step (RunX Y (mKGet kvs m) e s Q) (RunX Y m e s fun d e1 s1 => ∃ z r, toS d = some z ∧ lookS kvs z = some r ∧ Q r e1 s1) := ⟨run_kget⟩
theorem run_sortD {ml : M Nat} {Q : D → Ev → St → Prop} (h : RunX Y ml e s fun l e1 s1 => ∃ kvs ks, s1[l]? = some (.dk kvs) ∧ keysS kvs = some ks ∧ ks.length < 64 ∧ Q (.list ((sortT ks).map PyData.str)) e1 s1) : RunX Y (mSortD ml) e s Q :=
  run_bind (h.mono fun l _ _ ⟨kvs, ks, h1, h2, h3, h4⟩ => Run.i (by
    dsimp only
    rw [h1]
    dsimp only
    rw [h2]
    dsimp only
    rw [if_pos h3]
    exact h4))
instance {ml : M Nat} {Q : D → Ev → St → Prop} : Step (RunX Y (mSortD ml) e s Q) (RunX Y ml e s fun l e1 s1 => ∃ kvs ks, s1[l]? = some (.dk kvs) ∧ keysS kvs = some ks ∧ ks.length < 64 ∧ Q (.list ((sortT ks).map PyData.str)) e1 s1) := ⟨run_sortD⟩
theorem run_dget2 {ml : M Nat} {mk : M D} {mc : M Cl} {Q : Cl → Ev → St → Prop} (h : RunX Y ml e s fun l e1 s1 => ∃ k0, s1[l]? = some (.dk k0) ∧ RunX Y mk e1 s1 fun d e2 s2 => RunX Y mc e2 s2 fun z e3 s3 => ∃ kvs k, s3[l]? = some (.dk kvs) ∧ toK d = some k ∧ Q ((valC kvs k).getD z) e3 s3) : RunX Y (mDGet2 ml mk mc) e s Q :=
  run_bind (h.mono fun l _ _ ⟨k0, h0, h⟩ => run_bind (run_isDk ⟨k0, h0, run_bind (h.mono fun d _ _ h => run_bind (h.mono fun z _ _ ⟨kvs, k, h1, h2, h3⟩ => Run.i (by
    dsimp only
    rw [h1, h2]
    exact h3)))⟩))
instance {ml : M Nat} {mk : M D} {mc : M Cl} {Q : Cl → Ev → St → Prop} : Step (RunX Y (mDGet2 ml mk mc) e s Q) (RunX Y ml e s fun l e1 s1 => ∃ k0, s1[l]? = some (.dk k0) ∧ RunX Y mk e1 s1 fun d e2 s2 => RunX Y mc e2 s2 fun z e3 s3 => ∃ kvs k, s3[l]? = some (.dk kvs) ∧ toK d = some k ∧ Q ((valC kvs k).getD z) e3 s3) := ⟨run_dget2⟩
/-- a comprehension told by functions; I: what stays true of the store -/
theorem run_compF {vs : List Nat} {g : MG Cl} {mt : M Bool} {me : M D} {Q : List D → Ev → St → Prop} (ds : List D) (p : D → Bool) (f : D → D) (I : St → Prop) (h0 : I s)
    (hs : ∀ d ∈ ds, ∀ s, I s → ∃ e1, g (.sh d) e = some e1 ∧ RunX Y mt e1 s fun b e2 s2 => b = p d ∧ (b = true → RunX Y me e2 s2 fun y e3 s3 => y = f d ∧ wipeE e3 vs = e ∧ I s3) ∧ (b = false → wipeE e2 vs = e ∧ I s2))
    (fin : ∀ s, I s → Q ((ds.filter p).map f) e s) : RunX Y (compL vs g mt me ds) e s Q := by
  refine run_compL ds (fun i ys e' s' => e' = e ∧ I s' ∧ ys = ((ds.take i).filter p).map f) ⟨rfl, h0, by simp⟩ (fun i d ys e' s' hd ⟨he, hI, hy⟩ => ?_) fun ys e' s' ⟨he, hI, hy⟩ => ?_
  · subst he; subst hy
    obtain ⟨e1, h1, h2⟩ := hs d (List.mem_of_getElem? hd) s' hI
    refine ⟨e1, h1, h2.mono fun b e2 s2 ⟨hb, ht, hf⟩ => ⟨fun hb' => (ht hb').mono fun y e3 s3 ⟨a, b', c⟩ => ⟨b', c, ?_⟩, fun hb' => ?_⟩⟩
    · rw [filter_take_succ p ds i d hd, ← hb, hb', a]
      simp
    · obtain ⟨a, b'⟩ := hf hb'
      refine ⟨a, b', ?_⟩
      rw [filter_take_succ p ds i d hd, ← hb, hb']
      simp
  · subst he; subst hy
    rw [List.take_length]
    exact fin s' hI
end
theorem canAll : ∀ {ds : List D}, (∀ d ∈ ds, d.canLay0 = true) → PyData.canLayAll0 ds = true
  | [], _ => rfl
  | d :: ds, h => by
    rw [PyData.canLayAll0, h d List.mem_cons_self, canAll fun x hx => h x (List.mem_cons_of_mem _ hx)]
    rfl
theorem depAll {n : Nat} : ∀ {ds : List D}, (∀ d ∈ ds, d.depth ≤ n) → PyData.depthAll ds ≤ n
  | [], _ => Nat.zero_le _
  | d :: ds, h => by
    rw [PyData.depthAll]
    exact Nat.max_le.mpr ⟨h d List.mem_cons_self, depAll fun x hx => h x (List.mem_cons_of_mem _ hx)⟩
/-- data that == takes, so deep -/
def Sh (n : Nat) (d : D) : Prop := d.canLay0 = true ∧ d.depth ≤ n
theorem Sh.mono {n m : Nat} {d : D} (h : Sh n d) (k : n ≤ m) : Sh m d := ⟨h.1, Nat.le_trans h.2 k⟩
theorem Sh.tup {n : Nat} {ds : List D} (h : ∀ d ∈ ds, Sh n d) : Sh (n + 1) (.tuple ds) := ⟨canAll fun d hd => (h d hd).1, by rw [PyData.depth]; exact Nat.succ_le_succ (depAll fun d hd => (h d hd).2)⟩
theorem Sh.lst {n : Nat} {ds : List D} (h : ∀ d ∈ ds, Sh n d) : Sh (n + 1) (.list ds) := ⟨canAll fun d hd => (h d hd).1, by rw [PyData.depth]; exact Nat.succ_le_succ (depAll fun d hd => (h d hd).2)⟩
theorem Sh.str {n k : Nat} {x : Str} (h : Ok n x) : Sh k (.str x) := ⟨h.strOk, Nat.zero_le _⟩
theorem Sh.int {k : Nat} {i : Int} : Sh k (.int i) := ⟨rfl, Nat.zero_le _⟩
theorem Sh.strs {n k : Nat} {xs : List Str} (h : ∀ x ∈ xs, Ok n x) : Sh (k + 1) (.tuple (xs.map PyData.str)) := Sh.tup fun d hd => by
  obtain ⟨x, hx, rfl⟩ := List.mem_map.mp hd
  exact Sh.str (h x hx)
theorem Sh.ok {n : Nat} {d : D} (h : Sh n d) (k : n ≤ 64 := by decide) : SeqAt.shaped d = true := by
  unfold SeqAt.shaped
  rw [h.1, decide_eq_true (Nat.le_trans h.2 k)]
  rfl
theorem Sh.same {n : Nat} {d : D} (h : Sh n d) : PyData.eqv d d = true := PySem.SeqAt.eqv_refl d h.1
theorem trim_lo {n l : Nat} {s : St} (h : n ≤ l) : trim n (.lo l) s = s := by
  unfold trim
  rw [if_neg]
  intro z
  have : Cl.under n (.lo l) = true := by
    have := (Bool.and_eq_true _ _ ▸ z : _ ∧ _).1
    exact this
  simp [Cl.under] at this
  omega
/-- nothing of the old changes -/
def Fz (s s' : St) : Prop := s.length ≤ s'.length ∧ ∀ j, j < s.length → s'[j]? = s[j]?
theorem Fz.refl (s : St) : Fz s s := ⟨Nat.le_refl _, fun _ _ => rfl⟩
theorem Fz.trans {s s1 s2 : St} (h : Fz s s1) (k : Fz s1 s2) : Fz s s2 := ⟨Nat.le_trans h.1 k.1, fun j hj => (k.2 j (Nat.lt_of_lt_of_le hj h.1)).trans (h.2 j hj)⟩
theorem Fz.trim {c : Cl} {s s' : St} (h : Fz s s') : Fz s (trim s.length c s') := ⟨trim_ge h.1, fun j hj => (trim_get hj).trans (h.2 j hj)⟩
theorem Fz.app {o : Ob} {s : St} : Fz s (s ++ [o]) := ⟨by simp, fun j hj => app_old hj⟩
theorem Fz.put {l : Nat} {o : Ob} {s0 s : St} (h : Fz s0 s) (hl : s0.length ≤ l) : Fz s0 (s.set l o) := ⟨by simpa using h.1, fun j hj => (set_other (by omega)).trans (h.2 j hj)⟩
theorem Fz.at_ {l : Nat} {o : Ob} {s s' : St} (h : Fz s s') (k : s[l]? = some o) : s'[l]? = some o := (h.2 l (lt_of_at k)).trans k
theorem drop_at {ds : List D} {i : Nat} {d : D} (h : ds[i]? = some d) : ds.drop i = d :: ds.drop (i + 1) := by
  have hl := (List.getElem?_eq_some_iff.mp h).1
  rw [List.drop_eq_getElem_cons hl]
  rw [List.getElem?_eq_getElem hl] at h
  rw [Option.some.inj h]
theorem run_forR {Y : Exn → Ev → St → Prop} {e : Ev} {s : St} {g : MG Cl} {mb : M Fl} {Q : Fl → Ev → St → Prop} (ds : List D) (I : List D → Ev → St → Prop) (h0 : I ds e s)
    (hs : ∀ (d : D) (r : List D) (e : Ev) (s : St), I (d :: r) e s → ∃ e1, g (.sh d) e = some e1 ∧ RunX Y mb e1 s fun fl e2 s2 => (fl = .nx ∨ fl = .ct → I r e2 s2) ∧ (fl = .bk → Q .nx e2 s2) ∧ (∀ c, fl = .rt c → Q (.rt c) e2 s2))
    (hd : ∀ e s, I [] e s → Q .nx e s) : RunX Y (forL g mb ds) e s Q :=
  run_forL ds (fun i e s => I (ds.drop i) e s) (by rw [List.drop_zero]; exact h0) (fun i d e s h hI => hs d _ e s (by rw [drop_at h] at hI; exact hI)) fun e s hI => hd e s (by rw [List.drop_length] at hI; exact hI)
theorem two_join {Y : Exn → Ev → St → Prop} {e : Ev} {s : St} {b : Bool} {m1 m2 rest : M Fl} {Q : Fl → Ev → St → Prop} (P : Ev → St → Prop) (h1 : b = true → RunX Y m1 e s fun fl e1 s1 => fl = .nx ∧ P e1 s1) (h2 : b = false → RunX Y m2 e s fun fl e1 s1 => fl = .nx ∧ P e1 s1) (h : ∀ e1 s1, P e1 s1 → RunX Y rest e1 s1 Q) :
    (b = true → RunX Y m1 e s fun fl e1 s1 => (fl = .nx → RunX Y rest e1 s1 Q) ∧ (fl ≠ .nx → Q fl e1 s1)) ∧ (b = false → RunX Y m2 e s fun fl e1 s1 => (fl = .nx → RunX Y rest e1 s1 Q) ∧ (fl ≠ .nx → Q fl e1 s1)) :=
  ⟨fun z => (h1 z).mono fun fl e1 s1 ⟨a, p⟩ => ⟨fun _ => h _ _ p, fun n => absurd a n⟩, fun z => (h2 z).mono fun fl e1 s1 ⟨a, p⟩ => ⟨fun _ => h _ _ p, fun n => absurd a n⟩⟩
end Ds
namespace Ds
open PySem PySem.Spec PyProof.Rows L2 Dn
section
variable {α β : Type} {e : Ev} {s : St} {m : M D} {Y : Exn → Ev → St → Prop}
theorem run_tget {ml : M Nat} {mk : M D} {Q : Cl → Ev → St → Prop} (h : RunX Y ml e s fun l e1 s1 => RunX Y mk e1 s1 fun d e2 s2 => ∃ kvs k c, tkAt s2 l = some kvs ∧ toTK d = some k ∧ valC kvs k = some c ∧ Q c e2 s2) : RunX Y (mTGet ml mk) e s Q :=
  run_bind (h.mono fun l _ _ h => run_bind (h.mono fun d _ _ ⟨kvs, k, c, h1, h2, h3, h4⟩ => Run.i (by
    dsimp only
    rw [h1, h2]
    dsimp only
    rw [h3]
    exact h4)))
instance {ml : M Nat} {mk : M D} {Q : Cl → Ev → St → Prop} : Step (RunX Y (mTGet ml mk) e s Q) (RunX Y ml e s fun l e1 s1 => RunX Y mk e1 s1 fun d e2 s2 => ∃ kvs k c, tkAt s2 l = some kvs ∧ toTK d = some k ∧ valC kvs k = some c ∧ Q c e2 s2) := ⟨run_tget⟩
theorem run_isDt {l : Nat} {Q : Nat → Ev → St → Prop} (h : ∃ kvs, tkAt s l = some kvs ∧ Q l e s) : RunX Y (isDt l) e s Q := by
  obtain ⟨kvs, h1, h2⟩ := h
  refine Run.i ?_
  unfold isDt
  dsimp only
  rw [h1]
  exact h2
theorem run_tget2 {ml : M Nat} {mk : M D} {mc : M Cl} {Q : Cl → Ev → St → Prop} (h : RunX Y ml e s fun l e1 s1 => ∃ k0, tkAt s1 l = some k0 ∧ RunX Y mk e1 s1 fun d e2 s2 => RunX Y mc e2 s2 fun z e3 s3 => ∃ kvs k, tkAt s3 l = some kvs ∧ toTK d = some k ∧ Q ((valC kvs k).getD z) e3 s3) : RunX Y (mTGet2 ml mk mc) e s Q :=
  run_bind (h.mono fun l _ _ ⟨k0, h0, h⟩ => run_bind (run_isDt ⟨k0, h0, run_bind (h.mono fun d _ _ h => run_bind (h.mono fun z _ _ ⟨kvs, k, h1, h2, h3⟩ => Run.i (by
    dsimp only
    rw [h1, h2]
    exact h3)))⟩))
instance {ml : M Nat} {mk : M D} {mc : M Cl} {Q : Cl → Ev → St → Prop} : Step (RunX Y (mTGet2 ml mk mc) e s Q) (RunX Y ml e s fun l e1 s1 => ∃ k0, tkAt s1 l = some k0 ∧ RunX Y mk e1 s1 fun d e2 s2 => RunX Y mc e2 s2 fun z e3 s3 => ∃ kvs k, tkAt s3 l = some kvs ∧ toTK d = some k ∧ Q ((valC kvs k).getD z) e3 s3) := ⟨run_tget2⟩
theorem run_tput {ml : M Nat} {mk : M D} {mc : M Cl} {Q : Fl → Ev → St → Prop} (h : RunX Y mc e s fun c e1 s1 => RunX Y ml e1 s1 fun l e2 s2 => RunX Y mk e2 s2 fun d e3 s3 => ∃ kvs k, s3[l]? = some (.dt kvs) ∧ toTK d = some k ∧ kvs.length < sizeLine ∧ Q .nx e3 (s3.set l (.dt (putC kvs k c)))) : RunX Y (mTPut ml mk mc) e s Q :=
  run_bind (h.mono fun _ _ _ h => run_bind (h.mono fun _ _ _ h => run_bind (h.mono fun _ _ _ ⟨kvs, k, h1, h2, h3, h4⟩ => Run.i (by
    dsimp only
    rw [h1, h2]
    dsimp only
    rw [if_pos h3]
    exact h4))))
instance {ml : M Nat} {mk : M D} {mc : M Cl} {Q : Fl → Ev → St → Prop} : Step (RunX Y (mTPut ml mk mc) e s Q) (RunX Y mc e s fun c e1 s1 => RunX Y ml e1 s1 fun l e2 s2 => RunX Y mk e2 s2 fun d e3 s3 => ∃ kvs k, s3[l]? = some (.dt kvs) ∧ toTK d = some k ∧ kvs.length < sizeLine ∧ Q .nx e3 (s3.set l (.dt (putC kvs k c)))) := ⟨run_tput⟩
theorem run_tin {neg : Bool} {ml : M Nat} {mk : M D} {Q : D → Ev → St → Prop} (h : RunX Y mk e s fun d e1 s1 => RunX Y ml e1 s1 fun l e2 s2 => ∃ kvs k, tkAt s2 l = some kvs ∧ toTK d = some k ∧ Q (.bool (if neg then !(valC kvs k).isSome else (valC kvs k).isSome)) e2 s2) : RunX Y (mTIn neg mk ml) e s Q :=
  run_bind (h.mono fun _ _ _ h => run_bind (h.mono fun _ _ _ ⟨kvs, k, h1, h2, h3⟩ => Run.i (by
    dsimp only
    rw [h1, h2]
    exact h3)))
instance {neg : Bool} {ml : M Nat} {mk : M D} {Q : D → Ev → St → Prop} : Step (RunX Y (mTIn neg mk ml) e s Q) (RunX Y mk e s fun d e1 s1 => RunX Y ml e1 s1 fun l e2 s2 => ∃ kvs k, tkAt s2 l = some kvs ∧ toTK d = some k ∧ Q (.bool (if neg then !(valC kvs k).isSome else (valC kvs k).isSome)) e2 s2) := ⟨run_tin⟩
theorem run_tnew {Q : Nat → Ev → St → Prop} (h : Q s.length e (s ++ [.dt []])) : RunX Y mTNew e s Q := Run.i h
instance {Q : Nat → Ev → St → Prop} : Step (RunX Y mTNew e s Q) (Q s.length e (s ++ [.dt []])) := ⟨run_tnew⟩
theorem run_fld {c f : Str} {ml : M Nat} {Q : Cl → Ev → St → Prop} (h : RunX Y ml e s fun l e1 s1 => ∃ fs x, s1[l]? = some (.ins c fs) ∧ fs.lookup f = some x ∧ Q x e1 s1) : RunX Y (mFld c ml f) e s Q :=
  run_bind (h.mono fun l _ _ ⟨fs, x, h1, h2, h3⟩ => Run.i (by
    dsimp only
    rw [h1]
    dsimp only
    rw [if_pos rfl, h2]
    exact h3))
instance {c f : Str} {ml : M Nat} {Q : Cl → Ev → St → Prop} : Step (RunX Y (mFld c ml f) e s Q) (RunX Y ml e s fun l e1 s1 => ∃ fs x, s1[l]? = some (.ins c fs) ∧ fs.lookup f = some x ∧ Q x e1 s1) := ⟨run_fld⟩
theorem run_setF {c f : Str} {ml : M Nat} {mc : M Cl} {Q : Fl → Ev → St → Prop} (h : RunX Y mc e s fun x e1 s1 => RunX Y ml e1 s1 fun l e2 s2 => ∃ fs, s2[l]? = some (.ins c fs) ∧ fs.length < 1000 ∧ Q .nx e2 (s2.set l (.ins c (putFC f x fs)))) : RunX Y (mSetF c ml f mc) e s Q :=
  run_bind (h.mono fun _ _ _ h => run_bind (h.mono fun _ _ _ ⟨fs, h1, h2, h3⟩ => Run.i (by
    dsimp only
    rw [h1]
    dsimp only
    rw [if_pos ⟨rfl, h2⟩]
    exact h3)))
instance {c f : Str} {ml : M Nat} {mc : M Cl} {Q : Fl → Ev → St → Prop} : Step (RunX Y (mSetF c ml f mc) e s Q) (RunX Y mc e s fun x e1 s1 => RunX Y ml e1 s1 fun l e2 s2 => ∃ fs, s2[l]? = some (.ins c fs) ∧ fs.length < 1000 ∧ Q .nx e2 (s2.set l (.ins c (putFC f x fs)))) := ⟨run_setF⟩
theorem run_isIns {c m : Str} {l : Nat} {Q : Nat → Ev → St → Prop} (h : ∃ fs, s[l]? = some (.ins c fs) ∧ fs.lookup m = none ∧ Q l e s) : RunX Y (isIns c m l) e s Q := by
  obtain ⟨fs, h1, h2, h3⟩ := h
  refine Run.i ?_
  unfold isIns
  dsimp only
  rw [h1]
  dsimp only
  rw [if_pos ⟨rfl, h2⟩]
  exact h3
theorem run_meth {c m : Str} {F : Fn} {ml : M Nat} {as : List (M Cl)} {Q : Cl → Ev → St → Prop} (h : RunX Y ml e s fun l e1 s1 => ∃ fs, s1[l]? = some (.ins c fs) ∧ fs.lookup m = none ∧ RunX Y (evA as) e1 s1 fun cs e2 s2 => FRunX NoF F (.lo l :: cs) s2 fun x s3 => Q x e2 s3) : RunX Y (mMeth c m F ml as) e s Q :=
  run_bind (h.mono fun l _ _ ⟨fs, h1, h2, h3⟩ => run_bind (run_isIns ⟨fs, h1, h2, run_bind (h3.mono fun cs e1 s1 h => Run.i (by
    obtain ⟨x, s2, q1, q2⟩ := h.to
    dsimp only
    rw [q1]
    exact q2))⟩))
instance {c m : Str} {F : Fn} {ml : M Nat} {as : List (M Cl)} {Q : Cl → Ev → St → Prop} : Step (RunX Y (mMeth c m F ml as) e s Q) (RunX Y ml e s fun l e1 s1 => ∃ fs, s1[l]? = some (.ins c fs) ∧ fs.lookup m = none ∧ RunX Y (evA as) e1 s1 fun cs e2 s2 => FRunX NoF F (.lo l :: cs) s2 fun x s3 => Q x e2 s3) := ⟨run_meth⟩
theorem run_make {c : Str} {F : Fn} {as : List (M Cl)} {Q : Nat → Ev → St → Prop} (h : RunX Y (evA as) e s fun cs e1 s1 => FRunX NoF F (.lo s1.length :: cs) (s1 ++ [.ins c []]) fun x s2 => x = .sh .none ∧ Q s1.length e1 s2) : RunX Y (mMake c F as) e s Q :=
  run_bind (h.mono fun cs e1 s1 h => Run.i (by
    obtain ⟨x, s2, q1, rfl, q2⟩ := h.to
    dsimp only
    rw [q1]
    exact q2))
instance {c : Str} {F : Fn} {as : List (M Cl)} {Q : Nat → Ev → St → Prop} : Step (RunX Y (mMake c F as) e s Q) (RunX Y (evA as) e s fun cs e1 s1 => FRunX NoF F (.lo s1.length :: cs) (s1 ++ [.ins c []]) fun x s2 => x = .sh .none ∧ Q s1.length e1 s2) := ⟨run_make⟩
theorem run_mLock {p : M Nat} {m : M α} {Q : α → Ev → St → Prop} (h : RunX NoY p e s fun l _ _ => ∃ kvs, s[l]? = some (.dt kvs) ∧ RunX NoY m e (s.set l (.ft kvs)) fun x e1 s1 => ∃ kvs', s1[l]? = some (.ft kvs') ∧ Q x e1 (s1.set l (.dt kvs'))) : RunX Y (mLock p m) e s Q := by
  refine Run.i ?_
  unfold mLock
  unfold RunX at h
  cases q : p ⟨e, s⟩ with
  | ok l x =>
    rw [q] at h
    obtain ⟨kvs, h1, h2⟩ := h
    dsimp only
    rw [h1]
    dsimp only
    cases q2 : m ⟨e, s.set l (.ft kvs)⟩ with
    | ok y z =>
      rw [q2] at h2
      obtain ⟨kvs', h3, h4⟩ := h2
      dsimp only
      rw [h3]
      exact h4
    | exc y z => rw [q2] at h2; exact h2.elim
    | bad => rw [q2] at h2; exact h2.elim
  | exc y x => rw [q] at h; exact h.elim
  | bad => rw [q] at h; exact h.elim
instance {p : M Nat} {m : M α} {Q : α → Ev → St → Prop} : Step (RunX Y (mLock p m) e s Q) (RunX NoY p e s fun l _ _ => ∃ kvs, s[l]? = some (.dt kvs) ∧ RunX NoY m e (s.set l (.ft kvs)) fun x e1 s1 => ∃ kvs', s1[l]? = some (.ft kvs') ∧ Q x e1 (s1.set l (.dt kvs'))) := ⟨run_mLock⟩
theorem run_keysT {ml : M Nat} {Q : List D → Ev → St → Prop} (h : RunX Y ml e s fun l e1 s1 => ∃ kvs, s1[l]? = some (.ft kvs) ∧ Q (keysD kvs) e1 s1) : RunX Y (mKeysT ml) e s Q :=
  run_bind (h.mono fun l _ _ ⟨kvs, h1, h2⟩ => Run.i (by
    dsimp only
    rw [h1]
    exact h2))
instance {ml : M Nat} {Q : List D → Ev → St → Prop} : Step (RunX Y (mKeysT ml) e s Q) (RunX Y ml e s fun l e1 s1 => ∃ kvs, s1[l]? = some (.ft kvs) ∧ Q (keysD kvs) e1 s1) := ⟨run_keysT⟩
theorem run_sortL {Q : D → Ev → St → Prop} (h : RunX Y m e s fun d e1 s1 => ∃ ds, d = .list ds ∧ sortB ds = true ∧ Q (.list (sortD ds)) e1 s1) : RunX Y (mSortL m) e s Q :=
  run_bind (h.mono fun d _ _ ⟨ds, h1, h2, h3⟩ => run_opt ⟨.list (sortD ds), by subst h1; dsimp only; rw [if_pos h2], h3⟩)
instance {Q : D → Ev → St → Prop} : Step (RunX Y (mSortL m) e s Q) (RunX Y m e s fun d e1 s1 => ∃ ds, d = .list ds ∧ sortB ds = true ∧ Q (.list (sortD ds)) e1 s1) := ⟨run_sortL⟩
theorem run_sortDT {ml : M Nat} {Q : D → Ev → St → Prop} (h : RunX Y ml e s fun l e1 s1 => ∃ kvs, tkAt s1 l = some kvs ∧ sortB (keysD kvs) = true ∧ Q (.list (sortD (keysD kvs))) e1 s1) : RunX Y (mSortDT ml) e s Q :=
  run_bind (h.mono fun l _ _ ⟨kvs, h1, h2, h3⟩ => Run.i (by
    dsimp only
    rw [h1]
    dsimp only
    rw [if_pos h2]
    exact h3))
instance {ml : M Nat} {Q : D → Ev → St → Prop} : Step (RunX Y (mSortDT ml) e s Q) (RunX Y ml e s fun l e1 s1 => ∃ kvs, tkAt s1 l = some kvs ∧ sortB (keysD kvs) = true ∧ Q (.list (sortD (keysD kvs))) e1 s1) := ⟨run_sortDT⟩
theorem run_listR1 {Q : D → Ev → St → Prop} (h : RunX Y m e s fun d e1 s1 => ∃ j, d = .int j ∧ (inLine j = true ∧ (j - 0).toNat ≤ 16777216) ∧ Q (.list (rngD 0 (j - 0).toNat)) e1 s1) : RunX Y (mListR1 m) e s Q :=
  run_bind (h.mono fun d _ _ ⟨j, h1, h2, h3⟩ => run_opt ⟨.list (rngD 0 (j - 0).toNat), by subst h1; dsimp only; rw [if_pos h2], h3⟩)
instance {Q : D → Ev → St → Prop} : Step (RunX Y (mListR1 m) e s Q) (RunX Y m e s fun d e1 s1 => ∃ j, d = .int j ∧ (inLine j = true ∧ (j - 0).toNat ≤ 16777216) ∧ Q (.list (rngD 0 (j - 0).toNat)) e1 s1) := ⟨run_listR1⟩
end
/-- all others as they were -/
def Fr (b : Nat) (s s' : St) : Prop := s.length ≤ s'.length ∧ ∀ j, j < s.length → j ≠ b → s'[j]? = s[j]?
theorem Fr.refl (b : Nat) (s : St) : Fr b s s := ⟨Nat.le_refl _, fun _ _ _ => rfl⟩
theorem Fr.trans {b : Nat} {s s1 s2 : St} (h : Fr b s s1) (k : Fr b s1 s2) : Fr b s s2 := ⟨Nat.le_trans h.1 k.1, fun j hj hb => (k.2 j (Nat.lt_of_lt_of_le hj h.1) hb).trans (h.2 j hj hb)⟩
theorem Fr.trim {b : Nat} {c : Cl} {s s' : St} (h : Fr b s s') : Fr b s (trim s.length c s') := ⟨trim_ge h.1, fun j hj hb => (trim_get hj).trans (h.2 j hj hb)⟩
theorem Fr.set {b : Nat} {o : Ob} {s : St} : Fr b s (s.set b o) := ⟨by simp, fun j _ hb => set_other hb⟩
theorem Fr.app {b : Nat} {o : Ob} {s : St} : Fr b s (s ++ [o]) := ⟨by simp, fun j hj _ => app_old hj⟩
theorem Fr.at_ {b l : Nat} {o : Ob} {s s' : St} (h : Fr b s s') (k : s[l]? = some o) (hb : l ≠ b) : s'[l]? = some o := (h.2 l (lt_of_at k) hb).trans k
theorem Fr.put {b l : Nat} {o : Ob} {s0 s : St} (h : Fr b s0 s) (hl : s0.length ≤ l) : Fr b s0 (s.set l o) := ⟨by simpa using h.1, fun j hj hb => (set_other (by omega)).trans (h.2 j hj hb)⟩
/-- the state of the draws -/
def S2 (l : Nat) (s : St) : Prop := ∃ a b : Int, s[l]? = some (.lst [.sh (.int a), .sh (.int b)]) ∧ 0 ≤ a ∧ 0 ≤ b ∧ b < 4294967296
theorem S2.lt {l : Nat} {s : St} (h : S2 l s) : l < s.length := by
  obtain ⟨a, b, h, _⟩ := h
  exact lt_of_at h
theorem S2.of {l : Nat} {s s' : St} (h : S2 l s) (k : s'[l]? = s[l]?) : S2 l s' := by
  obtain ⟨a, b, h, q⟩ := h
  exact ⟨a, b, k.trans h, q⟩
theorem S2.trim {l n : Nat} {k : Cl} {s : St} (h : S2 l s) (hb : l < n) : S2 l (trim n k s) := h.of (trim_get hb)
theorem S2.app {l : Nat} {o : Ob} {s : St} (h : S2 l s) : S2 l (s ++ [o]) := h.of (app_old h.lt)
end Ds
namespace Ds
open PySem PySem.Spec PyProof.Rows L2 Dn
section
variable {α β : Type} {e : Ev} {s : St} {m : M D} {Y : Exn → Ev → St → Prop} {YF : Exn → St → Prop}
theorem RunX.ymono {m : M α} {Y Y' : Exn → Ev → St → Prop} {Q : α → Ev → St → Prop} (h : RunX Y m e s Q) (k : ∀ y e' s', Y y e' s' → Y' y e' s') : RunX Y' m e s Q := by
  unfold RunX at *
  cases q : m ⟨e, s⟩ with
  | ok a x => rw [q] at h; exact h
  | exc y x => rw [q] at h; exact k _ _ _ h
  | bad => rw [q] at h; exact h
theorem RunX.lift {m : M α} {Q : α → Ev → St → Prop} (h : Run m e s Q) : RunX Y m e s Q := RunX.ymono h fun _ _ _ z => z.elim
theorem FRunX.ymono {F : Fn} {as : Ev} {Y Y' : Exn → St → Prop} {Q : Cl → St → Prop} (h : FRunX Y F as s Q) (k : ∀ y s', Y y s' → Y' y s') : FRunX Y' F as s Q := by
  unfold FRunX at *
  cases q : F as s with
  | ok a x => rw [q] at h; exact h
  | exc y x => rw [q] at h; exact k _ _ h
  | bad => rw [q] at h; exact h
theorem FRunX.lift {F : Fn} {as : Ev} {Q : Cl → St → Prop} (h : FRun F as s Q) : FRunX YF F as s Q := FRunX.ymono h fun _ _ z => z.elim
theorem run_callX {F : Fn} {as : List (M Cl)} {Q : Cl → Ev → St → Prop} (h : RunX Y (evA as) e s fun cs e1 s1 => FRunX (fun y s2 => Y y e1 s2) F cs s1 fun c s2 => Q c e1 s2) : RunX Y (mCallX F as) e s Q :=
  run_bind (h.mono fun cs e1 s1 h => Run.i (by
    unfold FRunX at h
    dsimp only
    cases q : F cs s1 with
    | ok c s2 => rw [q] at h; exact h
    | exc y s2 => rw [q] at h; exact h
    | bad => rw [q] at h; exact h))
instance {F : Fn} {as : List (M Cl)} {Q : Cl → Ev → St → Prop} : Step (RunX Y (mCallX F as) e s Q) (RunX Y (evA as) e s fun cs e1 s1 => FRunX (fun y s2 => Y y e1 s2) F cs s1 fun c s2 => Q c e1 s2) := ⟨run_callX⟩
theorem run_methX {c m : Str} {F : Fn} {ml : M Nat} {as : List (M Cl)} {Q : Cl → Ev → St → Prop} (h : RunX Y ml e s fun l e1 s1 => ∃ fs, s1[l]? = some (.ins c fs) ∧ fs.lookup m = none ∧ RunX Y (evA as) e1 s1 fun cs e2 s2 => FRunX (fun y s3 => Y y e2 s3) F (.lo l :: cs) s2 fun x s3 => Q x e2 s3) : RunX Y (mMethX c m F ml as) e s Q :=
  run_bind (h.mono fun l _ _ ⟨fs, h1, h2, h3⟩ => run_bind (run_isIns ⟨fs, h1, h2, run_bind (h3.mono fun cs e1 s1 h => Run.i (by
    unfold FRunX at h
    dsimp only
    cases q : F (.lo l :: cs) s1 with
    | ok c s2 => rw [q] at h; exact h
    | exc y s2 => rw [q] at h; exact h
    | bad => rw [q] at h; exact h))⟩))
instance {c m : Str} {F : Fn} {ml : M Nat} {as : List (M Cl)} {Q : Cl → Ev → St → Prop} : Step (RunX Y (mMethX c m F ml as) e s Q) (RunX Y ml e s fun l e1 s1 => ∃ fs, s1[l]? = some (.ins c fs) ∧ fs.lookup m = none ∧ RunX Y (evA as) e1 s1 fun cs e2 s2 => FRunX (fun y s3 => Y y e2 s3) F (.lo l :: cs) s2 fun x s3 => Q x e2 s3) := ⟨run_methX⟩
theorem run_raise {x : Str} {Q : Fl → Ev → St → Prop} (h : Y ⟨x, none⟩ e s) : RunX Y (mRaise x) e s Q := Run.i h
instance {x : Str} {Q : Fl → Ev → St → Prop} : Step (RunX Y (mRaise x) e s Q) (Y ⟨x, none⟩ e s) := ⟨run_raise⟩
theorem run_raiseN {x : Str} {Q : Fl → Ev → St → Prop} (h : RunX Y m e s fun d e1 s1 => ∃ n, d = .int n ∧ Y ⟨x, some n⟩ e1 s1) : RunX Y (mRaiseN x m) e s Q :=
  run_bind (h.mono fun d e1 s1 ⟨n, h1, h2⟩ => Run.i (by
    subst h1
    exact h2))
instance {x : Str} {Q : Fl → Ev → St → Prop} : Step (RunX Y (mRaiseN x m) e s Q) (RunX Y m e s fun d e1 s1 => ∃ n, d = .int n ∧ Y ⟨x, some n⟩ e1 s1) := ⟨run_raiseN⟩
theorem run_tryAs {i : Nat} {hit : Str → Option Bool} {mb : M Fl} {ms : Exn → M Fl} {Q : Fl → Ev → St → Prop} (h : RunX (fun y e1 s1 => ∃ b, hit y.cls = some b ∧ (b = true → i < e1.length ∧ RunX NoY (ms y) (e1.set i .no) s1 fun fl e2 s2 => Q fl (e2.set i .no) s2) ∧ (b = false → Y y e1 s1)) mb e s Q) : RunX Y (mTryAs i hit mb ms) e s Q := by
  refine Run.i ?_
  unfold mTryAs
  unfold RunX at h
  cases q : mb ⟨e, s⟩ with
  | ok fl x => rw [q] at h; exact h
  | bad => rw [q] at h; exact h
  | exc y x =>
    rw [q] at h
    obtain ⟨b, h1, h2, h3⟩ := h
    dsimp only
    rw [h1]
    cases b with
    | false => exact h3 rfl
    | true =>
      obtain ⟨h4, h5⟩ := h2 rfl
      dsimp only
      rw [if_pos h4]
      cases q2 : ms y ⟨x.e.set i .no, x.s⟩ with
      | ok fl z => rw [q2] at h5; exact h5
      | exc y z => rw [q2] at h5; exact h5.elim
      | bad => rw [q2] at h5; exact h5.elim
theorem run_isB {b : Bool} {Q : D → Ev → St → Prop} (h : Q (.bool b) e s) : RunX Y (mIsB (some b)) e s Q := run_opt ⟨_, rfl, h⟩
instance {b : Bool} {Q : D → Ev → St → Prop} : Step (RunX Y (mIsB (some b)) e s Q) (Q (.bool b) e s) := ⟨run_isB⟩
theorem run_num {n : Int} {Q : D → Ev → St → Prop} (h : Q (.int n) e s) : RunX Y (mNum (some n)) e s Q := run_opt ⟨_, rfl, h⟩
instance {n : Int} {Q : D → Ev → St → Prop} : Step (RunX Y (mNum (some n)) e s Q) (Q (.int n) e s) := ⟨run_num⟩
theorem run_msIf {z : Str} {m1 : Option Int → M Fl} {m2 : Exn → M Fl} {y : Exn} {Q : Fl → Ev → St → Prop} (h1 : y.cls = z → RunX Y (m1 y.num) e s Q) (h2 : ¬ y.cls = z → RunX Y (m2 y) e s Q) : RunX Y (msIf z m1 m2 y) e s Q := by
  unfold msIf
  split
  · exact h1 (by assumption)
  · exact h2 (by assumption)
theorem run_msHit {z : Str} {m1 : Option Int → M Fl} {m2 : Exn → M Fl} {n : Option Int} {Q : Fl → Ev → St → Prop} (h1 : RunX Y (m1 n) e s Q) : RunX Y (msIf z m1 m2 ⟨z, n⟩) e s Q := run_msIf (fun _ => h1) fun k => absurd rfl k
end
end Ds
namespace Ds
open PySem PySem.Spec PyProof.Rows L2 Dn
section
variable {K : Frag} {G : Hp} {g : Gh} {H : Hp} {σ : L2.St} {δ : Sx}
theorem Rp.key {K : Frag} {h : Hp} : ∀ (k : Key), Rp K h (kV k) (keyD k)
  | .inl i => .int i
  | .inr x => .str x
/-- the keys of a locked dict -/
def keysK (kvs : List (Key × Cl)) : List D := kvs.map fun kv => keyD kv.1
end
section
variable {X : Cx} {E : XQ} {tg e : Expr} {pos : Pos} {ml p : M Nat}
def mKeysK (ml : M Nat) : M (List D) := mBind ml fun l δ => match δ.s[l]? with
  | some (.fk kvs) => .ok (keysK kvs) δ
  | _ => .bad
/-- while the dict at p is locked -/
def mLockK {α : Type} (p : M Nat) (m : M α) : M α := fun δ => match p δ with
  | .ok l _ => (match δ.s[l]? with
    | some (.dk kvs) => (match m ⟨δ.e, δ.s.set l (.fk kvs)⟩ with
      | .ok x δ' => (match δ'.s[l]? with
        | some (.fk kvs') => .ok x ⟨δ'.e, δ'.s.set l (.dk kvs')⟩
        | _ => .bad)
      | _ => .bad)
    | _ => .bad)
  | _ => .bad
end
/-- d[k], d locked -/
def mDGetF (ml : M Nat) (mk : M D) : M Cl := mBind ml fun l => mBind mk fun e δ => match δ.s[l]?, toK e with
  | some (.fk kvs), some k => match valC kvs k with
    | some c => .ok c δ
    | none => .bad
  | _, _ => .bad
section
variable {X : Cx} {E : XQ} {a b e o f : Expr} {pos : Pos} {m mk mx : M D} {mc : M Cl} {ml : M Nat} {m1 m2 : M Fl}
/-- x.pop() -/
def mPop0 (ml : M Nat) : M Cl := mBind (mIsL ml) fun l δ => match δ.s[l]? with
  | some (.lst xs) => match xs[xs.length - 1]? with
    | some c => .ok c ⟨δ.e, δ.s.set l (.lst xs.dropLast)⟩
    | none => .bad
  | _ => .bad
theorem all2_dropLast {α β : Type} {R : α → β → Prop} : ∀ {xs : List α} {ys : List β}, All2 R xs ys → All2 R xs.dropLast ys.dropLast
  | _, _, .nil => .nil
  | _, _, .cons _ .nil => .nil
  | _, _, .cons h (.cons h2 t) => .cons h (all2_dropLast (.cons h2 t))
theorem jc_pop0 {apos cpos : Pos}
    {PE0 : PE X (.Call (.Attribute o "pop" apos) [] [] cpos) (tBM0 X.K "list" rPop (tOfL X.K E ml))} : PE X (.Call (.Attribute o "pop" apos) [] [] cpos) (tOfC X.K E (mPop0 ml)) :=
  pe_imp PE0 fun σ H Q ⟨G, g, δ, re, po⟩ => by
    show tBM0 _ _ _ _ _ _ _
    unfold tBM0
    refine isL re po fun q l g1 H1 δ1 e1 re1 r1 ht po1 => ⟨ht, ?_⟩
    split at po1
    · rename_i xs hx
      split at po1
      · rename_i c hc
        obtain ⟨vs, h1, h2⟩ := re1.lstAt r1 hx
        obtain ⟨v', h3, h4⟩ := h2.get hc
        have hl := h2.length
        refine ⟨q, vs, v', rfl, rfl, h1, by rw [hl]; exact h3, ?_⟩
        exact Post.of po1 (re1.write hx rfl r1 (.lst (all2_dropLast h2))) v' h4
      · exact po1.elim
    · exact po1.elim
/-- d.pop(k, x) -/
def mDPop2 (ml : M Nat) (mk : M D) (mc : M Cl) : M Cl := mBind ml fun l => mBind (isDk l) fun l => mBind mk fun e => mBind mc fun z δ => match δ.s[l]?, toK e with
  | some (.dk kvs), some k => match valC kvs k with
    | some c => .ok c ⟨δ.e, δ.s.set l (.dk (dropC kvs k))⟩
    | none => .ok z δ
  | _, _ => .bad
/-- list(d) -/
def mListD (ml : M Nat) : M (List Cl) := mBind (evA [mLo ml]) fun cs δ => match cs with
  | [.lo l] => match δ.s[l]? with
    | some (.dk kvs) => .ok ((kvs.map fun kv => keyD kv.1).map Cl.sh) δ
    | _ => .bad
  | _ => .bad
end
end Ds
namespace Ds
open PySem PySem.Spec PyProof.Rows L2 Dn
section
variable {α β : Type} {e : Ev} {s : St} {m : M D} {Y : Exn → Ev → St → Prop}
theorem run_dpop2 {ml : M Nat} {mk : M D} {mc : M Cl} {Q : Cl → Ev → St → Prop} (h : RunX Y ml e s fun l e1 s1 => ∃ k0, s1[l]? = some (.dk k0) ∧ RunX Y mk e1 s1 fun d e2 s2 => RunX Y mc e2 s2 fun z e3 s3 => ∃ kvs k, s3[l]? = some (.dk kvs) ∧ toK d = some k ∧ (∀ c, valC kvs k = some c → Q c e3 (s3.set l (.dk (dropC kvs k)))) ∧ (valC kvs k = none → Q z e3 s3)) : RunX Y (mDPop2 ml mk mc) e s Q :=
  run_bind (h.mono fun l _ _ ⟨k0, h0, h⟩ => run_bind (run_isDk ⟨k0, h0, run_bind (h.mono fun d _ _ h => run_bind (h.mono fun z _ s3 ⟨kvs, k, h1, h2, h3, h4⟩ => Run.i (by
    dsimp only
    rw [h1, h2]
    dsimp only
    cases q : valC kvs k with
    | none => exact h4 q
    | some c => exact h3 c q)))⟩))
instance {ml : M Nat} {mk : M D} {mc : M Cl} {Q : Cl → Ev → St → Prop} : Step (RunX Y (mDPop2 ml mk mc) e s Q) (RunX Y ml e s fun l e1 s1 => ∃ k0, s1[l]? = some (.dk k0) ∧ RunX Y mk e1 s1 fun d e2 s2 => RunX Y mc e2 s2 fun z e3 s3 => ∃ kvs k, s3[l]? = some (.dk kvs) ∧ toK d = some k ∧ (∀ c, valC kvs k = some c → Q c e3 (s3.set l (.dk (dropC kvs k)))) ∧ (valC kvs k = none → Q z e3 s3)) := ⟨run_dpop2⟩
theorem run_pop0 {ml : M Nat} {Q : Cl → Ev → St → Prop} (h : RunX Y ml e s fun l e1 s1 => ∃ xs c, s1[l]? = some (.lst xs) ∧ xs[xs.length - 1]? = some c ∧ Q c e1 (s1.set l (.lst xs.dropLast))) : RunX Y (mPop0 ml) e s Q :=
  run_bind (run_bind (h.mono fun l _ s1 ⟨xs, c, h1, h2, h3⟩ => run_isLst ⟨xs, h1, Run.i (by
    dsimp only
    rw [h1]
    dsimp only
    rw [h2]
    exact h3)⟩))
instance {ml : M Nat} {Q : Cl → Ev → St → Prop} : Step (RunX Y (mPop0 ml) e s Q) (RunX Y ml e s fun l e1 s1 => ∃ xs c, s1[l]? = some (.lst xs) ∧ xs[xs.length - 1]? = some c ∧ Q c e1 (s1.set l (.lst xs.dropLast))) := ⟨run_pop0⟩
theorem run_listD {ml : M Nat} {Q : List Cl → Ev → St → Prop} (h : RunX Y ml e s fun l e1 s1 => ∃ kvs, s1[l]? = some (.dk kvs) ∧ Q ((kvs.map fun kv => keyD kv.1).map Cl.sh) e1 s1) : RunX Y (mListD ml) e s Q :=
  run_bind (run_agC (run_lo (h.mono fun l _ s1 ⟨kvs, h1, h2⟩ => run_ag0 (Run.i (by
    dsimp only
    rw [h1]
    exact h2)))))
instance {ml : M Nat} {Q : List Cl → Ev → St → Prop} : Step (RunX Y (mListD ml) e s Q) (RunX Y ml e s fun l e1 s1 => ∃ kvs, s1[l]? = some (.dk kvs) ∧ Q ((kvs.map fun kv => keyD kv.1).map Cl.sh) e1 s1) := ⟨run_listD⟩
theorem run_dgetF {ml : M Nat} {mk : M D} {Q : Cl → Ev → St → Prop} (h : RunX Y ml e s fun l e1 s1 => RunX Y mk e1 s1 fun d e2 s2 => ∃ kvs k c, s2[l]? = some (.fk kvs) ∧ toK d = some k ∧ valC kvs k = some c ∧ Q c e2 s2) : RunX Y (mDGetF ml mk) e s Q :=
  run_bind (h.mono fun l _ _ h => run_bind (h.mono fun d _ _ ⟨kvs, k, c, h1, h2, h3, h4⟩ => Run.i (by
    dsimp only
    rw [h1, h2]
    dsimp only
    rw [h3]
    exact h4)))
instance {ml : M Nat} {mk : M D} {Q : Cl → Ev → St → Prop} : Step (RunX Y (mDGetF ml mk) e s Q) (RunX Y ml e s fun l e1 s1 => RunX Y mk e1 s1 fun d e2 s2 => ∃ kvs k c, s2[l]? = some (.fk kvs) ∧ toK d = some k ∧ valC kvs k = some c ∧ Q c e2 s2) := ⟨run_dgetF⟩
theorem run_keysK {ml : M Nat} {Q : List D → Ev → St → Prop} (h : RunX Y ml e s fun l e1 s1 => ∃ kvs, s1[l]? = some (.fk kvs) ∧ Q (keysK kvs) e1 s1) : RunX Y (mKeysK ml) e s Q :=
  run_bind (h.mono fun l _ _ ⟨kvs, h1, h2⟩ => Run.i (by
    dsimp only
    rw [h1]
    exact h2))
instance {ml : M Nat} {Q : List D → Ev → St → Prop} : Step (RunX Y (mKeysK ml) e s Q) (RunX Y ml e s fun l e1 s1 => ∃ kvs, s1[l]? = some (.fk kvs) ∧ Q (keysK kvs) e1 s1) := ⟨run_keysK⟩
theorem run_mLockK {p : M Nat} {m : M α} {Q : α → Ev → St → Prop} (h : RunX NoY p e s fun l _ _ => ∃ kvs, s[l]? = some (.dk kvs) ∧ RunX NoY m e (s.set l (.fk kvs)) fun x e1 s1 => ∃ kvs', s1[l]? = some (.fk kvs') ∧ Q x e1 (s1.set l (.dk kvs'))) : RunX Y (mLockK p m) e s Q := by
  refine Run.i ?_
  unfold mLockK
  unfold RunX at h
  cases q : p ⟨e, s⟩ with
  | bad => rw [q] at h; exact h.elim
  | exc x δ => rw [q] at h; exact h.elim
  | ok l δ =>
    rw [q] at h
    obtain ⟨kvs, h1, h2⟩ := h
    dsimp only
    rw [h1]
    dsimp only
    cases q2 : m ⟨e, s.set l (.fk kvs)⟩ with
    | ok y z =>
      rw [q2] at h2
      obtain ⟨kvs', h3, h4⟩ := h2
      dsimp only
      rw [h3]
      exact h4
    | exc y z => rw [q2] at h2; exact h2.elim
    | bad => rw [q2] at h2; exact h2.elim
instance {p : M Nat} {m : M α} {Q : α → Ev → St → Prop} : Step (RunX Y (mLockK p m) e s Q) (RunX NoY p e s fun l _ _ => ∃ kvs, s[l]? = some (.dk kvs) ∧ RunX NoY m e (s.set l (.fk kvs)) fun x e1 s1 => ∃ kvs', s1[l]? = some (.fk kvs') ∧ Q x e1 (s1.set l (.dk kvs'))) := ⟨run_mLockK⟩
theorem run_augF {c f : Str} {ml : M Nat} {F : Int → Int → Int} {k : Int} {Q : Fl → Ev → St → Prop} (h : RunX Y ml e s fun l e1 s1 => ∃ fs i, s1[l]? = some (.ins c fs) ∧ fs.length < 1000 ∧ fs.lookup f = some (.sh (.int i)) ∧ Q .nx e1 (s1.set l (.ins c (putFC f (.sh (.int (F i k))) fs)))) : RunX Y (mAugF c ml f F k) e s Q :=
  run_bind (h.mono fun l _ _ ⟨fs, i, h1, h2, h3, h4⟩ => Run.i (by
    dsimp only
    rw [h1]
    dsimp only
    rw [if_pos ⟨rfl, h2⟩, h3]
    exact h4))
instance {c f : Str} {ml : M Nat} {F : Int → Int → Int} {k : Int} {Q : Fl → Ev → St → Prop} : Step (RunX Y (mAugF c ml f F k) e s Q) (RunX Y ml e s fun l e1 s1 => ∃ fs i, s1[l]? = some (.ins c fs) ∧ fs.length < 1000 ∧ fs.lookup f = some (.sh (.int i)) ∧ Q .nx e1 (s1.set l (.ins c (putFC f (.sh (.int (F i k))) fs)))) := ⟨run_augF⟩
theorem run_rev {Q : D → Ev → St → Prop} (h : RunX Y m e s fun d e1 s1 => ∃ c, dRev d = some c ∧ Q c e1 s1) : RunX Y (mRev m) e s Q := run_bind (h.mono fun _ _ _ h => run_opt h)
instance {Q : D → Ev → St → Prop} : Step (RunX Y (mRev m) e s Q) (RunX Y m e s fun d e1 s1 => ∃ c, dRev d = some c ∧ Q c e1 s1) := ⟨run_rev⟩
end
end Ds
namespace Ds
open PySem PySem.Spec PyProof.Rows L2 Dn
section
variable {X : Cx} {E : XQ} {e : Expr} {es : List Expr} {pos : Pos} {as : List (M Cl)} {ml : M Nat}
def mTupC (as : List (M Cl)) : M Cl := mBind (evA as) fun cs => mOpt (if cs.length ≤ sizeLine then some (.tp cs) else none)
/-- l[::-1] of a list of the store -/
def mRevO (ml : M Nat) : M (List Cl) := mBind ml fun l δ => match δ.s[l]? with
  | some (.lst xs) => .ok xs.reverse δ
  | _ => .bad
def at_ (rev : Bool) (n i : Nat) : Nat := if rev = true then n - 1 - i else i
def mLenL (ml : M Nat) : M (Nat × Nat) := mBind ml fun l δ => match δ.s[l]? with
  | some (.lst xs) => .ok (l, xs.length) δ
  | _ => .bad
def forO (rev : Bool) (l n : Nat) (mg : MG Cl) (mb : M Fl) : Nat → M Fl
  | 0 => fun δ => match δ.s[l]? with
    | some (.lst xs) => if xs.length = n then .ok .nx δ else .bad
    | _ => .bad
  | k + 1 => fun δ => match δ.s[l]? with
    | some (.lst xs) => match (if xs.length = n then xs[at_ rev n (n - 1 - k)]? else none) with
      | some c => match mg c δ.e with
        | some e' => match mb ⟨e', δ.s⟩ with
          | .ok .nx δ2 => forO rev l n mg mb k δ2
          | .ok .ct δ2 => forO rev l n mg mb k δ2
          | .ok .bk δ2 => .ok .nx δ2
          | .ok (.rt s) δ2 => .ok (.rt s) δ2
          | .exc x δ2 => .exc x δ2
          | .bad => .bad
        | none => .bad
      | none => .bad
    | _ => .bad
def mForO (rev : Bool) (m : M (Nat × Nat)) (mg : MG Cl) (mb : M Fl) : M Fl := mBind m fun ln => forO rev ln.1 ln.2 mg mb ln.2
def pairL : List D → Option (List (Key × Cl))
  | [] => some []
  | .tuple [k, v] :: r => match toK k, pairL r with
    | some k', some t => some ((k', .sh v) :: t)
    | _, _ => none
  | _ :: _ => none
def mDictP (m : M D) : M Nat := mBind m fun d => match d with
  | .list xs => mBind (mOpt (pairL xs)) fun cs => mAll (.dk (mergeC [] cs))
  | _ => fun _ => .bad
/-- a or b, of None and ints -/
def truD : D → Option Bool
  | .none => some false
  | .int i => some (i != 0)
  | _ => none
def mOrZ (m1 m2 : M D) : M D := mBind m1 fun d => mBind (mOpt (truD d)) fun b => if b = true then mPure d else m2
end
end Ds
namespace Ds
open PySem PySem.Spec PyProof.Rows L2 Dn
section
variable {α β : Type} {e : Ev} {s : St} {m : M D} {Y : Exn → Ev → St → Prop}
theorem run_tupC {as : List (M Cl)} {Q : Cl → Ev → St → Prop} (h : RunX Y (evA as) e s fun cs e1 s1 => cs.length ≤ sizeLine ∧ Q (.tp cs) e1 s1) : RunX Y (mTupC as) e s Q := run_bind (h.mono fun cs _ _ ⟨a, b⟩ => run_opt ⟨.tp cs, if_pos a, b⟩)
instance {as : List (M Cl)} {Q : Cl → Ev → St → Prop} : Step (RunX Y (mTupC as) e s Q) (RunX Y (evA as) e s fun cs e1 s1 => cs.length ≤ sizeLine ∧ Q (.tp cs) e1 s1) := ⟨run_tupC⟩
theorem run_revO {ml : M Nat} {Q : List Cl → Ev → St → Prop} (h : RunX Y ml e s fun l e1 s1 => ∃ xs, s1[l]? = some (.lst xs) ∧ Q xs.reverse e1 s1) : RunX Y (mRevO ml) e s Q := run_bind (h.mono fun l _ _ ⟨xs, h1, h2⟩ => Run.i (by
  dsimp only
  rw [h1]
  exact h2))
instance {ml : M Nat} {Q : List Cl → Ev → St → Prop} : Step (RunX Y (mRevO ml) e s Q) (RunX Y ml e s fun l e1 s1 => ∃ xs, s1[l]? = some (.lst xs) ∧ Q xs.reverse e1 s1) := ⟨run_revO⟩
theorem run_lenL {ml : M Nat} {Q : Nat × Nat → Ev → St → Prop} (h : RunX Y ml e s fun l e1 s1 => ∃ xs, s1[l]? = some (.lst xs) ∧ Q (l, xs.length) e1 s1) : RunX Y (mLenL ml) e s Q := run_bind (h.mono fun l _ _ ⟨xs, h1, h2⟩ => Run.i (by
  dsimp only
  rw [h1]
  exact h2))
instance {ml : M Nat} {Q : Nat × Nat → Ev → St → Prop} : Step (RunX Y (mLenL ml) e s Q) (RunX Y ml e s fun l e1 s1 => ∃ xs, s1[l]? = some (.lst xs) ∧ Q (l, xs.length) e1 s1) := ⟨run_lenL⟩
theorem run_forW {rev : Bool} {mn : M (Nat × Nat)} {g : MG Cl} {mb : M Fl} {Q : Fl → Ev → St → Prop} (h : RunX Y mn e s fun ln e1 s1 => RunX Y (forO rev ln.1 ln.2 g mb ln.2) e1 s1 Q) : RunX Y (mForO rev mn g mb) e s Q := run_bind h
instance {rev : Bool} {mn : M (Nat × Nat)} {g : MG Cl} {mb : M Fl} {Q : Fl → Ev → St → Prop} : Step (RunX Y (mForO rev mn g mb) e s Q) (RunX Y mn e s fun ln e1 s1 => RunX Y (forO rev ln.1 ln.2 g mb ln.2) e1 s1 Q) := ⟨run_forW⟩
theorem run_dictP {Q : Nat → Ev → St → Prop} (h : RunX Y m e s fun d e1 s1 => ∃ xs cs, d = .list xs ∧ pairL xs = some cs ∧ Q s1.length e1 (s1 ++ [.dk (mergeC [] cs)])) : RunX Y (mDictP m) e s Q := run_bind (h.mono fun d _ _ ⟨xs, cs, h1, h2, h3⟩ => by
  subst h1
  exact run_optB ⟨cs, h2, Run.i h3⟩)
instance {Q : Nat → Ev → St → Prop} : Step (RunX Y (mDictP m) e s Q) (RunX Y m e s fun d e1 s1 => ∃ xs cs, d = .list xs ∧ pairL xs = some cs ∧ Q s1.length e1 (s1 ++ [.dk (mergeC [] cs)])) := ⟨run_dictP⟩
theorem run_orZ {m1 m2 : M D} {Q : D → Ev → St → Prop} (h : RunX Y m1 e s fun d e1 s1 => ∃ b, truD d = some b ∧ (b = true → Q d e1 s1) ∧ (b = false → RunX Y m2 e1 s1 Q)) : RunX Y (mOrZ m1 m2) e s Q := run_bind (h.mono fun d _ _ ⟨b, h1, h2, h3⟩ => run_optB ⟨b, h1, by
  cases b with
  | true => exact run_pure (h2 rfl)
  | false => exact h3 rfl⟩)
instance {m1 m2 : M D} {Q : D → Ev → St → Prop} : Step (RunX Y (mOrZ m1 m2) e s Q) (RunX Y m1 e s fun d e1 s1 => ∃ b, truD d = some b ∧ (b = true → Q d e1 s1) ∧ (b = false → RunX Y m2 e1 s1 Q)) := ⟨run_orZ⟩
end
end Ds
local macro_rules | `(tactic| walk_at "ds") => `(tactic| first
  | refine Dn.Step.go ?_
  | ((with_reducible apply Ds.run_var); (exact rfl))
  | ((with_reducible apply Ds.run_lv); (exact rfl))
  | ((with_reducible apply Ds.run_clD); (exact rfl))
  | ((with_reducible apply Ds.run_clL); (exact rfl))
  | (refine Dn.StepS.go ?_ ?_; (first | assumption | exact rfl | omega | (apply Dn.line_of; omega) | (apply Dn.inLine_of; omega) | (refine ⟨?_, ?_, of_decide_eq_true rfl⟩ <;> omega) | decide))
  | (with_reducible refine Ds.two_Tb (by decide) ?_)
  | (with_reducible refine Ds.two_Fb (by decide) ?_)
  | (refine ⟨_, rfl, Nat.le_of_ble_eq_true rfl, ?_⟩)
  | (refine ⟨Nat.le_of_ble_eq_true rfl, ?_⟩)
  | (refine ⟨_, rfl, ?_⟩))
namespace Ds
open PySem PySem.Spec PyProof.Rows L2 Dn
def mEmpC (ml : M Nat) (m : M D) : M D := mBind ml fun l => mBind m fun d δ => match δ.s[l]?, d with
  | some (.lst xs), .list [] => .ok (.bool xs.isEmpty) δ
  | _, _ => .bad
section
variable {e : Ev} {s : St} {ml : M Nat} {m : M D} {Y : Exn → Ev → St → Prop}
theorem run_emp {Q : D → Ev → St → Prop} (h : RunX Y ml e s fun l e1 s1 => RunX Y m e1 s1 fun d e2 s2 => ∃ xs, s2[l]? = some (.lst xs) ∧ d = .list [] ∧ Q (.bool xs.isEmpty) e2 s2) : RunX Y (mEmpC ml m) e s Q :=
  run_bind (h.mono fun _ _ _ h => run_bind (h.mono fun _ _ _ ⟨xs, h1, h2, h3⟩ => Run.i (by
    dsimp only
    rw [h1, h2]
    exact h3)))
instance {Q : D → Ev → St → Prop} : Step (RunX Y (mEmpC ml m) e s Q) (RunX Y ml e s fun l e1 s1 => RunX Y m e1 s1 fun d e2 s2 => ∃ xs, s2[l]? = some (.lst xs) ∧ d = .list [] ∧ Q (.bool xs.isEmpty) e2 s2) := ⟨run_emp⟩
end
end Ds
namespace Ds
open PySem PySem.Spec PyProof.Rows L2 Dn
section
variable {X : Cx} {E : XQ} {e : Expr} {es : List Expr} {pos : Pos} {ml : M Nat}
def forE (l n : Nat) (mg : MG Cl) (mb : M Fl) : Nat → M Fl
  | 0 => fun δ => match δ.s[l]? with
    | some (.lst xs) => if xs.length = n then .ok .nx δ else .bad
    | _ => .bad
  | k + 1 => fun δ => match δ.s[l]? with
    | some (.lst xs) => match (if xs.length = n then xs[n - 1 - k]? else none) with
      | some c => match mg (.tp [.sh (.int ((n - 1 - k : Nat) : Int)), c]) δ.e with
        | some e' => match mb ⟨e', δ.s⟩ with
          | .ok .nx δ2 => forE l n mg mb k δ2
          | .ok .ct δ2 => forE l n mg mb k δ2
          | .ok .bk δ2 => .ok .nx δ2
          | .ok (.rt s) δ2 => .ok (.rt s) δ2
          | .exc x δ2 => .exc x δ2
          | .bad => .bad
        | none => .bad
      | none => .bad
    | _ => .bad
def mForE (m : M (Nat × Nat)) (mg : MG Cl) (mb : M Fl) : M Fl := mBind m fun ln => forE ln.1 ln.2 mg mb ln.2
end
section
variable {X : Cx} {E : XQ} {tg e elt iter : Expr} {ifs : List Expr} {pos : Pos} {vs gv : List Nat} {mn : M (Nat × Nat)} {mg : MG Cl} {mt : M Bool} {me : M D}
def compO (vs : List Nat) (l n : Nat) (mg : MG Cl) (mt : M Bool) (me : M D) : Nat → M (List D)
  | 0 => fun δ => match δ.s[l]? with
    | some (.lst xs) => if xs.length = n then .ok [] δ else .bad
    | _ => .bad
  | k + 1 => fun δ => match δ.s[l]? with
    | some (.lst xs) => match (if xs.length = n then xs[n - 1 - k]? else none) with
      | some c => match mg c δ.e with
        | some e' => mBind mt (fun b => if b then mBind me (fun y => mBind (mWipe vs) fun _ => mBind (compO vs l n mg mt me k) fun ys => mPure (y :: ys)) else mBind (mWipe vs) fun _ => compO vs l n mg mt me k) ⟨e', δ.s⟩
        | none => .bad
      | none => .bad
    | _ => .bad
def compOE (vs : List Nat) (mg : MG Cl) (mt : M Bool) (me : M D) (ln : Nat × Nat) : M (List Cl) := fun δ =>
  if ln.2 ≤ sizeLine then
    match compO vs ln.1 ln.2 mg mt me ln.2 ⟨wipeE δ.e vs, δ.s⟩ with
    | .ok ys δ2 => .ok (ys.map Cl.sh) ⟨backE δ.e δ2.e vs, δ2.s⟩
    | _ => .bad
  else .bad
def mCompO (mn : M (Nat × Nat)) (vs : List Nat) (mg : MG Cl) (mt : M Bool) (me : M D) : M (List Cl) := mBind mn (compOE vs mg mt me)
end
end Ds
namespace Ds
open PySem PySem.Spec PyProof.Rows L2 Dn
section
variable {α β : Type} {e : Ev} {s : St} {m : M D} {Y : Exn → Ev → St → Prop}
theorem run_forWE {mn : M (Nat × Nat)} {g : MG Cl} {mb : M Fl} {Q : Fl → Ev → St → Prop} (h : RunX Y mn e s fun ln e1 s1 => RunX Y (forE ln.1 ln.2 g mb ln.2) e1 s1 Q) : RunX Y (mForE mn g mb) e s Q := run_bind h
instance {mn : M (Nat × Nat)} {g : MG Cl} {mb : M Fl} {Q : Fl → Ev → St → Prop} : Step (RunX Y (mForE mn g mb) e s Q) (RunX Y mn e s fun ln e1 s1 => RunX Y (forE ln.1 ln.2 g mb ln.2) e1 s1 Q) := ⟨run_forWE⟩
theorem run_compO {mn : M (Nat × Nat)} {vs : List Nat} {g : MG Cl} {mt : M Bool} {me : M D} {Q : List Cl → Ev → St → Prop}
    (h : RunX Y mn e s fun ln e1 s1 => ln.2 ≤ sizeLine ∧ RunX NoY (compO vs ln.1 ln.2 g mt me ln.2) (wipeE e1 vs) s1 fun ys e2 s2 => Q (ys.map Cl.sh) (backE e1 e2 vs) s2) : RunX Y (mCompO mn vs g mt me) e s Q :=
  run_bind (h.mono fun ln e1 s1 ⟨h1, h2⟩ => by
    unfold RunX compOE
    dsimp only
    rw [if_pos h1]
    unfold RunX at h2
    cases q : compO vs ln.1 ln.2 g mt me ln.2 ⟨wipeE e1 vs, s1⟩ with
    | ok ys x => rw [q] at h2; exact h2
    | exc y x => rw [q] at h2; exact h2
    | bad => rw [q] at h2; exact h2)
instance {mn : M (Nat × Nat)} {vs : List Nat} {g : MG Cl} {mt : M Bool} {me : M D} {Q : List Cl → Ev → St → Prop} : Step (RunX Y (mCompO mn vs g mt me) e s Q) (RunX Y mn e s fun ln e1 s1 => ln.2 ≤ sizeLine ∧ RunX NoY (compO vs ln.1 ln.2 g mt me ln.2) (wipeE e1 vs) s1 fun ys e2 s2 => Q (ys.map Cl.sh) (backE e1 e2 vs) s2) := ⟨run_compO⟩
end
end Ds
namespace Ds
open PySem PySem.Spec PyProof.Rows L2 Dn
section
variable {X : Cx} {E : XQ} {o f : Expr} {pos p cpos apos c0 c1 : Pos} {c y z : Str} {j j1 j2 : Nat} {m : M D}
def mRepl (y z : Str) (m : M D) : M D := mBind m fun d => mOpt (match d with
  | .str x => if x.length + (x.length + 1) * z.length ≤ 16777216 then some (.str (Txt.replace x y z)) else none
  | _ => none)
theorem run_repl {e : Ev} {s : St} {Y : Exn → Ev → St → Prop} {Q : D → Ev → St → Prop} (h : RunX Y m e s fun d e1 s1 => ∃ x, d = .str x ∧ x.length + (x.length + 1) * z.length ≤ 16777216 ∧ Q (.str (Txt.replace x y z)) e1 s1) : RunX Y (mRepl y z m) e s Q := run_bind (h.mono fun d _ _ ⟨x, h1, h2, h3⟩ => by
  subst h1
  exact run_opt ⟨_, if_pos h2, h3⟩)
instance {e : Ev} {s : St} {Y : Exn → Ev → St → Prop} {Q : D → Ev → St → Prop} : Step (RunX Y (mRepl y z m) e s Q) (RunX Y m e s fun d e1 s1 => ∃ x, d = .str x ∧ x.length + (x.length + 1) * z.length ≤ 16777216 ∧ Q (.str (Txt.replace x y z)) e1 s1) := ⟨run_repl⟩
end
end Ds
namespace Ds
open PySem PySem.Spec PyProof.Rows L2 Dn
def tKA (K : Frag) (i : Nat) (a : Addr) (num : Option Int) (d : Option Addr) (m : M (List Cl)) : TA := fun σ H Q => CfK K i a num d m σ H fun _ cs g' H' _ => ∀ vs, All2 (CR K g') vs cs → Q vs H'
section
variable {X : Cx} {i : Nat} {a : Addr} {num : Option Int} {d : Option Addr} {e : Expr} {es : List Expr} {pos : Pos} {mc : M Cl} {as : List (M Cl)}
theorem jka_nil : PA X [] (tKA X.K i a num d (evA [])) := pa_imp pa_nil fun σ H Q ⟨hs, G, g, δ, re, xd, po⟩ => Post.of po re [] .nil
theorem jka_c (h : PE X e (tKC X.K i a num d mc)) (t : PA X es (tKA X.K i a num d (evA as))) (hs : starEach (e :: es) X.env = (false, eval e X.env) :: starEach es X.env := by rfl) : PA X (e :: es) (tKA X.K i a num d (evA (mc :: as))) :=
  pa_imp (pa_cons h t hs) fun σ H Q ⟨hk, G, g, δ, re, xd, po⟩ => CfK.step hk re xd po fun c g1 H1 δ1 e1 re1 xd1 po1 v r1 => CfK.step hk re1 xd1 po1 fun cs g2 H2 δ2 e2 re2 xd2 po2 vs r2 => Post.of po2 re2 (v :: vs) (.cons (r1.le e2) r2)
theorem jk_tup {x1} (h : PA X es (tKA X.K i a num d (evA as))) : PE X (.Tuple es x1 pos) (tKD X.K i a num d (mTup as)) :=
  pe_imp (pe_tup h) fun σ H Q ⟨hs, G, g, δ, re, xd, po⟩ => by
    unfold mTup mShs at po
    rw [bind_assoc] at po
    refine CfK.step hs re xd po fun cs g1 H1 δ1 e1 re1 xd1 po1 vs r1 => ?_
    obtain ⟨ds, hc, po2⟩ := Post.optB po1
    obtain ⟨h1, h2⟩ := Option.filter_eq_some_iff.mp hc
    have t := shL_rps r1 h1
    exact ⟨by rw [t.length]; exact of_decide_eq_true h2, fun p hpn => Post.grow po2 re1 (Grw.new re1.ex hpn) _ (.tup (StT.of upd_same) (t.ex (Gr.new re1.ex hpn).s))⟩
end
end Ds
namespace Ds
open PySem PySem.Spec PyProof.Rows L2 Dn
def pickL {α : Type} (xs : List α) (lo hi st : Option Int) : List α := (sliceRange (sliceBounds lo hi st xs.length).1 (sliceBounds lo hi st xs.length).2.1 (sliceBounds lo hi st xs.length).2.2).filterMap (xs[·]?)
theorem paired_at {α β : Type} {F : α → β → Prop} : ∀ {xs : List α} {ys : List β} (i : Nat), PySem.Paired F xs ys → (xs[i]? = none ∧ ys[i]? = none) ∨ ∃ a b, xs[i]? = some a ∧ ys[i]? = some b ∧ F a b
  | _, _, i, .nil => .inl ⟨rfl, rfl⟩
  | _, _, 0, .cons h t => .inr ⟨_, _, rfl, rfl, h⟩
  | _, _, i + 1, .cons h t => by simpa using paired_at i t
theorem paired_pick {α β : Type} {F : α → β → Prop} {xs : List α} {ys : List β} (h : PySem.Paired F xs ys) : ∀ ix : List Nat, PySem.Paired F (ix.filterMap (xs[·]?)) (ix.filterMap (ys[·]?))
  | [] => .nil
  | i :: ix => by
    rcases paired_at i h with ⟨h1, h2⟩ | ⟨a, b, h1, h2, h3⟩
    · rw [List.filterMap_cons_none h1, List.filterMap_cons_none h2]
      exact paired_pick h ix
    · rw [List.filterMap_cons_some h1, List.filterMap_cons_some h2]
      exact .cons h3 (paired_pick h ix)
theorem rps_pick {K : Frag} {H : Hp} {vs : List V} {ds : List D} (h : Rps K H vs ds) : ∀ ix : List Nat, Rps K H (ix.filterMap (vs[·]?)) (ix.filterMap (ds[·]?))
  | [] => .nil
  | i :: ix => by
    cases q : ds[i]? with
    | some d =>
      obtain ⟨v, h1, h2⟩ := Rps.get h q
      rw [List.filterMap_cons_some h1, List.filterMap_cons_some q]
      exact .cons h2 (rps_pick h ix)
    | none =>
      have h1 : vs[i]? = none := by
        rw [List.getElem?_eq_none_iff] at q ⊢
        rw [Rps.length h]
        exact q
      rw [List.filterMap_cons_none h1, List.filterMap_cons_none q]
      exact rps_pick h ix
def tStepL (K : Frag) (te : TE) (tl ts : TO) : TE := fun σ H Q => te σ H fun x H1 => tl σ H1 fun lo H2 => ts σ H2 fun st H3 => ∃ a xs, x = .ref a ∧ SqL K H3 a xs ∧ st ≠ some 0 ∧ (pickL xs lo none st).length ≤ sizeLine ∧ ∀ p, H3 p = none → Q (.ref p) (upd H3 p (.lst (pickL xs lo none st)))
section
variable {X : Cx} {E : XQ} {e es : Expr} {lo : Option Expr} {te : TE} {tl ts : TO} {p2 pos : Pos} {m : M D} {ml ms : M (Option Int)}
theorem pe_stepL (he : PE X e te) (hl : PO X lo tl) (hs : PO X (some es) ts) : PE X (.Subscript e (.Slice lo none (some es) p2) pos) (tStepL X.K te tl ts) := by
  refine ⟨fun pins s σ H Q I h => ?_⟩
  refine Subscript_ (thn (he.run pins s σ H _ I h) fun v s1 ⟨x, H1, I1, r1, q1⟩ => ?_)
  refine wpAny_Slice (thn (hl.run pins s1 σ H1 _ I1 q1) fun vl s2 ⟨l, H2, I2, pl, q2⟩ => ?_)
  refine thn (po_none.run pins s2 σ H2 (fun o H3 => o = none ∧ H3 = H2) I2 ⟨rfl, rfl⟩) fun vu s3 ⟨u, H3, I3, pu, eu, e3⟩ => ?_
  subst eu e3
  refine thn (hs.run pins s3 σ H3 _ I3 q2) fun vs s4 ⟨st, H4, I4, ps, q4⟩ => ?_
  obtain ⟨a, xs, ex, hx, h0, hz2, q⟩ := q4
  subst ex
  cases r1
  have I5 : Inv X pins σ H4 { s4 with heap := s4.heap.push { cls := .type "slice", data := .fields #[vl, vu, vs] } } := I4.kept (t' := s4.toks) fun b ob q => Heap.get?_push_of_some _ q
  obtain ⟨its, r, ht, hz⟩ := I5.list hx
  have hlen := r.length
  show wpAny (model X.prog X.w) X.A (subscriptTail e (.Slice lo none (some es) p2) (.ref a) (.ref s4.heap.objs.size)) (EP X pins σ Q) X.xe { s4 with heap := s4.heap.push { cls := .type "slice", data := .fields #[vl, vu, vs] } }
  refine tail_any (ops := [.ref a, .ref s4.heap.objs.size]) ht.isList.typeIs (PySem.slot_list_getitem.lookup) ?_ (by with_unfolding_all rfl)
  refine wpAny_getItem_list_slice ht.isList (Heap.IsSliceOf.new _ vl vu vs) pl pu ps h0 ?_ (by rw [List.size_toArray]; omega)
  have ep : slicePick its.toArray l none st = ((sliceRange (sliceBounds l none st xs.length).1 (sliceBounds l none st xs.length).2.1 (sliceBounds l none st xs.length).2.2).filterMap (its[·]?)).toArray := by
    unfold slicePick
    rw [List.size_toArray, ← hlen]
    simp
  rw [ep]
  refine ⟨.ref _, _, I5.laid (t' := s4.toks) (o := .lst (pickL xs l none st)) (fun b ob q => Heap.get?_push_of_some _ q) (Nat.le_refl _) ?_, rfl, q _ (I5.hok.fresh (Nat.le_refl _))⟩
  exact ⟨hz2, _, 0, paired_pick r _, Heap.get?_push_size _ rfl⟩
def dStep (d : D) (lo st : Option Int) : Option D := match d with
  | .list xs => if st ≠ some 0 ∧ (pickL xs lo none st).length ≤ sizeLine then some (.list (pickL xs lo none st)) else none
  | _ => none
def mStep (m : M D) (ml ms : M (Option Int)) : M D := mBind m fun d => mBind ml fun l => mBind ms fun st => mOpt (dStep d l st)
theorem je_stepL (he : PE X e (tOf X.K E m)) (hl : PO X lo (tOfP X.K E ml)) (hs : PO X (some es) (tOfP X.K E ms)) : PE X (.Subscript e (.Slice lo none (some es) p2) pos) (tOf X.K E (mStep m ml ms)) :=
  pe_imp (pe_stepL he hl hs) fun σ H Q ⟨G, g, δ, re, po⟩ => by
    refine tOf.step re po fun x d g1 H1 δ1 e1 re1 r1 po1 => ?_
    refine Cf.step re1 po1 fun l g2 H2 δ2 e2 re2 po2 => ?_
    refine Cf.step re2 po2 fun st g3 H3 δ3 e3 re3 po3 => ?_
    obtain ⟨c, hc, po4⟩ := Post.opt po3
    have r3 := (r1.ex e2.h).ex e3.h
    cases r3 with
    | lst h t =>
      unfold dStep at hc
      dsimp only at hc
      split at hc
      · rename_i hh
        cases hc
        have ep : ∀ {vs : List V} {ds : List D}, Rps X.K g3.h vs ds → (pickL vs l none st).length = (pickL ds l none st).length ∧ Rps X.K g3.h (pickL vs l none st) (pickL ds l none st) := fun {vs ds} t => by
          have : Rps X.K g3.h (pickL vs l none st) (pickL ds l none st) := by
            unfold pickL
            rw [Rps.length t]
            exact rps_pick t _
          exact ⟨Rps.length this, this⟩
        obtain ⟨h1, h2⟩ := ep t
        exact ⟨_, _, rfl, sqL_ex re3.ex h, hh.1, by rw [h1]; exact hh.2, fun p hp => Post.grow po4 re3 (Grw.new re3.ex hp) _ (.lst (SqL.of upd_same) (h2.ex (Gr.new re3.ex hp).s))⟩
      · cases hc
    | _ => simp [dStep] at hc
variable {e : Ev} {s : St} {Y : Exn → Ev → St → Prop}
theorem run_step {Q : D → Ev → St → Prop} (h : RunX Y m e s fun d e1 s1 => RunX Y ml e1 s1 fun l e2 s2 => RunX Y ms e2 s2 fun st e3 s3 => ∃ c, dStep d l st = some c ∧ Q c e3 s3) : RunX Y (mStep m ml ms) e s Q := run_bind (h.mono fun _ _ _ h => run_bind (h.mono fun _ _ _ h => run_bind (h.mono fun _ _ _ h => run_opt h)))
instance {Q : D → Ev → St → Prop} : Step (RunX Y (mStep m ml ms) e s Q) (RunX Y m e s fun d e1 s1 => RunX Y ml e1 s1 fun l e2 s2 => RunX Y ms e2 s2 fun st e3 s3 => ∃ c, dStep d l st = some c ∧ Q c e3 s3) := ⟨run_step⟩
end
end Ds
namespace Ds
open PySem PySem.Spec PyProof.Rows L2 Dn
section
variable {X : Cx}
def rInTup (K : PySem.W.Frag) : R2 := fun x y H Q => ∃ d ds, Dp K H x d ∧ Dp K H y (.tuple ds) ∧ SeqAt.shaped d = true ∧ SeqAt.shaped (.tuple ds) = true ∧ Q (.bl (ds.any fun z => PyData.eqv z d)) H
theorem op_inTup (hu : X.A.units + 65 < cLine) : OpR X (compareOp .In) (rInTup X.K) := by
  intro pins s σ H x y v u Q I rx ry h
  obtain ⟨d, ds, hd, he, sd, se, q⟩ := h
  obtain ⟨as, r1⟩ := Dp.reads I d x v hd rx
  obtain ⟨bs, r2⟩ := Dp.reads I (.tuple ds) y u he ry
  exact SeqAt.in_tuple_reads r2 r1 (SeqAt.canLay_of_shaped se) (SeqAt.canLay_of_shaped sd) (room_in_shaped sd hu) ⟨.bl _, H, I, rfl, q⟩
def rInDA (K : PySem.W.Frag) : R2 := fun x y H Q => rInD K x y H Q ∨ rInTup K x y H Q
theorem op_inDA (hu : X.A.units + 65 < cLine) : OpR X (compareOp .In) (rInDA X.K) := (op_inD hu).or (op_inTup hu)
end
def dInDeep (d e : D) : Option D := match e with
  | .list ds => if SeqAt.shaped d = true ∧ SeqAt.shaped (.list ds) = true then some (.bool (inD d ds)) else none
  | .tuple ds => if SeqAt.shaped d = true ∧ SeqAt.shaped (.tuple ds) = true then some (.bool (inD d ds)) else none
  | _ => none
theorem os_inD {K : PySem.W.Frag} : OpS K (rInDA K) dInDeep := fun Hs H x y d e c Q ex rx ry hg k => by
  cases e with
  | list ds =>
    unfold dInDeep at hg
    dsimp only at hg
    split at hg
    · rename_i hh
      cases hg
      exact .inl ⟨d, ds, (rx.ex ex).dp, (ry.ex ex).dp, hh.1, hh.2, k _ Hs H (.refl ex) (.bl _)⟩
    · cases hg
  | tuple ds =>
    unfold dInDeep at hg
    dsimp only at hg
    split at hg
    · rename_i hh
      cases hg
      exact .inr ⟨d, ds, (rx.ex ex).dp, (ry.ex ex).dp, hh.1, hh.2, k _ Hs H (.refl ex) (.bl _)⟩
    · cases hg
  | _ => cases hg
theorem bx_inD_tup {d : D} {ds : List D} {Q : D → Prop} (h1 : SeqAt.shaped d = true) (h2 : SeqAt.shaped (.tuple ds) = true) (h : Q (.bool (inD d ds))) : ∃ c, dInDeep d (.tuple ds) = some c ∧ Q c := ⟨_, if_pos ⟨h1, h2⟩, h⟩
end Ds
namespace Ds.K60
open PySem PySem.Spec PyProof.Rows L2 Dn
def c_MAKERS : D := (PyData.tuple [(PyData.str "number"), (PyData.str "copy"), (PyData.str "mix"), (PyData.str "open")])
def c_RULES : D := (PyData.tuple [(PyData.str "same"), (PyData.str "twice"), (PyData.str "covered"), (PyData.str "unread")])
def m_rows_in : M Fl := (mSeq (mIfS (mTest (mBin dEq (mBin dIx (mVar 0) (mC (PyData.int 0))) (mC (PyData.str "choose")))) (mRet (mSh (mBin dIx (mVar 0) (mC (PyData.int 1))))) mNx)
  (mSeq (mIfS (mTest (mBin dEq (mBin dIx (mVar 0) (mC (PyData.int 0))) (mC (PyData.str "loop")))) (mRet (mSh (mTup [(mSh (mBin dIx (mVar 0) (mC (PyData.int 1))))]))) mNx)
  (mRet (mSh (mTup [])))))
def f_rows_in : Fn := fnF 1 1 m_rows_in
def m_def_of : M Fl := (mSeq (mFor (mIter (mBin dIx (mVar 0) (mC (PyData.int 0)))) (mgName 2) (mIfS (mTest (mBin dEq (mBin dIx (mVar 2) (mC (PyData.int 0))) (mVar 1))) (mRet (mSh (mVar 2))) mNx))
  (mRet (mSh (mC PyData.none))))
def f_def_of : Fn := fnF 2 3 m_def_of
def m_row_of : M Fl := (mSeq (mIfS (mTest (mBin dEq (mVar 1) (mC (PyData.str "")))) (mRet (mSh (mBin dIx (mVar 0) (mC (PyData.int 1))))) mNx)
  (mRet (mSh (mBin dIx (mD (mCall f_def_of [(mSh (mVar 0)), (mSh (mVar 1))])) (mC (PyData.int 3))))))
def f_row_of : Fn := fnF 2 2 m_row_of
def m_words_along : M Fl := (mSeq (mSet 2 (mSh (mD (mCall f_row_of [(mSh (mVar 0)), (mSh (mBin dIx (mVar 1) (mC (PyData.int 0))))]))))
  (mSeq (mSet 3 (mLo (mNew (mLsO [(mSh (mTup [(mSh (mVar 2)), (mSh (mBin dIx (mVar 1) (mC (PyData.int 1))))]))]))))
  (mSeq (mFor (mRng3 (mC (PyData.int 2)) (mCallB bLen [(mSh (mVar 1))]) (mC (PyData.int 2))) (mgName 4) (mSeq (mSet 2 (mSh (mBin dIx (mD (mCall f_rows_in [(mSh (mBin dIx (mVar 2) (mBin dIx (mVar 1) (mBin dSub (mVar 4) (mC (PyData.int 1))))))])) (mBin dIx (mVar 1) (mVar 4)))))
  (mApp (mLV 3) (mSh (mTup [(mSh (mVar 2)), (mSh (mBin dIx (mVar 1) (mBin dAdd (mVar 4) (mC (PyData.int 1)))))])))))
  (mRet (mSh (mSeal (mLV 3)))))))
def f_words_along : Fn := fnF 2 5 m_words_along
def m_word_at : M Fl := (mSeq (mAsg (mgTup 2 (mgCons (mgName 2) (mgCons (mgName 3) mgNil))) (mSh (mBin dIx (mD (mCall f_words_along [(mSh (mVar 0)), (mSh (mVar 1))])) (mNeg (mC (PyData.int 1))))))
  (mSeq (mIfS (mTest (mBin dEq (mVar 3) (mCallB bLen [(mSh (mVar 2))]))) (mRet (mSh (mC PyData.none))) mNx)
  (mRet (mSh (mBin dIx (mVar 2) (mVar 3))))))
def f_word_at : Fn := fnF 2 4 m_word_at
def m_places_from (r : Nat → Fn) : M Fl := (mSeq (mSet 2 (mLo (mNew (mLsO []))))
  (mSeq (mFor (mEnum (mVar 0)) (mgTup 2 (mgCons (mgName 3) (mgCons (mgName 4) mgNil))) (mSeq (mApp (mLV 2) (mSh (mBin dAdd (mVar 1) (mTup [(mSh (mVar 3))]))))
  (mFor (mEnum (mD (mCall f_rows_in [(mSh (mVar 4))]))) (mgTup 2 (mgCons (mgName 5) (mgCons (mgName 6) mgNil))) (mExt (mLV 2) (mSh (mD (mCall (r 0) [(mSh (mVar 6)), (mSh (mBin dAdd (mVar 1) (mTup [(mSh (mVar 3)), (mSh (mVar 5))])))])))))))
  (mRet (mSh (mSeal (mLV 2))))))
def f_G5 : Nat → Nat → Fn
  | 0, _ => fun _ _ => .bad
  | k + 1, _ => fnF 2 7 (m_places_from (f_G5 k))
def f_places_from : Fn := f_G5 14 0
def m_places_of : M Fl := (mSeq (mSet 2 (mSh (mD (mCall f_row_of [(mSh (mVar 0)), (mSh (mVar 1))]))))
  (mRet (mSh (mCallB bTuple [(mSh (mBin dAdd (mD (mCall f_places_from [(mSh (mVar 2)), (mSh (mTup [(mSh (mVar 1))]))])) (mLst [(mSh (mTup [(mSh (mVar 1)), (mSh (mCallB bLen [(mSh (mVar 2))]))]))])))]))))
def f_places_of : Fn := fnF 2 3 m_places_of
def m_next_word : M Fl := (mSeq (mSet 2 (mSh (mBin dAdd (mSl (mVar 1) mNoPart (mPart (mNeg (mC (PyData.int 1))))) (mTup [(mSh (mBin dAdd (mBin dIx (mVar 1) (mNeg (mC (PyData.int 1)))) (mC (PyData.int 1))))]))))
  (mSeq (mIfS (mTest (mBin dInDeep (mVar 2) (mD (mCall f_places_of [(mSh (mVar 0)), (mSh (mBin dIx (mVar 1) (mC (PyData.int 0))))])))) (mRet (mSh (mD (mCall f_word_at [(mSh (mVar 0)), (mSh (mVar 2))])))) mNx)
  (mRet (mSh (mC PyData.none)))))
def f_next_word : Fn := fnF 2 3 m_next_word
def m_lets : M Fl := (mSeq (mSet 4 (mSh (mD (mCall f_word_at [(mSh (mVar 0)), (mSh (mVar 1))]))))
  (mSeq (mIfS (mTest (mBin dIs (mVar 4) (mC PyData.none))) (mRet (mSh (mC (PyData.bool false)))) mNx)
  (mSeq (mIfS (mTest (mBin dEq (mVar 2) (mC (PyData.str "same")))) (mRet (mSh (mAndV (mBin dEq (mBin dIx (mVar 4) (mC (PyData.int 0))) (mC (PyData.str "copy"))) (mBin dEq (mBin dIx (mVar 4) (mC (PyData.int 1))) (mBin dIx (mVar 4) (mC (PyData.int 2))))))) mNx)
  (mSeq (mIfS (mTest (mBin dEq (mVar 2) (mC (PyData.str "twice")))) (mRet (mSh (mAndV (mBin dIn (mBin dIx (mVar 4) (mC (PyData.int 0))) (mTup [(mSh (mC (PyData.str "wipe"))), (mSh (mC (PyData.str "clear")))])) (mBin dEq (mD (mCall f_next_word [(mSh (mVar 0)), (mSh (mVar 1))])) (mVar 4))))) mNx)
  (mSeq (mIfS (mTest (mBin dNotIn (mBin dIx (mVar 4) (mC (PyData.int 0))) (mC c_MAKERS))) (mRet (mSh (mC (PyData.bool false)))) mNx)
  (mSeq mBad
  mBad))))))
def f_lets : Fn := fnF 4 5 m_lets
def m_row_without (r : Nat → Fn) : M Fl := (mSeq (mSet 2 (mSh (mBin dIx (mVar 1) (mC (PyData.int 0)))))
  (mSeq (mIfS (mTest (mBin dEq (mCallB bLen [(mSh (mVar 1))]) (mC (PyData.int 1)))) (mRet (mSh (mBin dAdd (mSl (mVar 0) mNoPart (mPart (mVar 2))) (mSl (mVar 0) (mPart (mBin dAdd (mVar 2) (mC (PyData.int 1)))) mNoPart)))) mNx)
  (mSeq (mSet 3 (mSh (mBin dIx (mVar 0) (mVar 2))))
  (mSeq (mIfS (mTest (mBin dEq (mBin dIx (mVar 3) (mC (PyData.int 0))) (mC (PyData.str "loop")))) (mSet 4 (mSh (mTup [(mSh (mC (PyData.str "loop"))), (mSh (mD (mCall (r 0) [(mSh (mBin dIx (mVar 3) (mC (PyData.int 1)))), (mSh (mSl (mVar 1) (mPart (mC (PyData.int 2))) mNoPart))])))]))) (mSeq (mSet 5 (mLo (mNew (mListOf (mSh (mBin dIx (mVar 3) (mC (PyData.int 1))))))))
  (mSeq (mSetIx (mLV 5) (mBin dIx (mVar 1) (mC (PyData.int 1))) (mSh (mD (mCall (r 0) [(mSh (mD (mIxC (mLo (mLV 5)) (mBin dIx (mVar 1) (mC (PyData.int 1)))))), (mSh (mSl (mVar 1) (mPart (mC (PyData.int 2))) mNoPart))]))))
  (mSet 4 (mSh (mTup [(mSh (mC (PyData.str "choose"))), (mSh (mTupOf (mLo (mLV 5))))]))))))
  (mRet (mSh (mBin dAdd (mBin dAdd (mSl (mVar 0) mNoPart (mPart (mVar 2))) (mTup [(mSh (mVar 4))])) (mSl (mVar 0) (mPart (mBin dAdd (mVar 2) (mC (PyData.int 1)))) mNoPart))))))))
def f_G9 : Nat → Nat → Fn
  | 0, _ => fun _ _ => .bad
  | k + 1, _ => fnF 2 6 (m_row_without (f_G9 k))
def f_row_without : Fn := f_G9 14 0
def m_without : M Fl := (mSeq (mAsg (mgTup 2 (mgCons (mgName 4) (mgCons (mgName 5) mgNil))) (mSh (mVar 0)))
  (mSeq (mIfS (mTest (mBin dEq (mBin dIx (mVar 1) (mC (PyData.int 0))) (mC (PyData.str "")))) (mRet (mSh (mTup [(mSh (mVar 4)), (mSh (mD (mCall f_row_without [(mSh (mVar 5)), (mSh (mSl (mVar 1) (mPart (mC (PyData.int 1))) mNoPart))])))]))) mNx)
  (mSeq (mSet 2 (mLo (mNew (mLsO []))))
  (mSeq (mFor (mIter (mVar 4)) (mgName 3) (mSeq (mIfS (mTest (mBin dEq (mBin dIx (mVar 3) (mC (PyData.int 0))) (mBin dIx (mVar 1) (mC (PyData.int 0))))) (mSet 3 (mSh (mBin dAdd (mSl (mVar 3) mNoPart (mPart (mC (PyData.int 3)))) (mTup [(mSh (mD (mCall f_row_without [(mSh (mBin dIx (mVar 3) (mC (PyData.int 3)))), (mSh (mSl (mVar 1) (mPart (mC (PyData.int 1))) mNoPart))])))])))) mNx)
  (mApp (mLV 2) (mSh (mVar 3)))))
  (mRet (mSh (mTup [(mSh (mTupOf (mLo (mLV 2)))), (mSh (mVar 5))])))))))
def f_without : Fn := fnF 2 6 m_without
def m_is_place : M Fl := (mSeq (mIfS (mOrT (mNotT (mTest (mIsi "tuple" (mVar 1)))) (mOrT (mTest (mBin dLt (mCallB bLen [(mSh (mVar 1))]) (mC (PyData.int 2)))) (mNotT (mTest (mIsi "str" (mBin dIx (mVar 1) (mC (PyData.int 0)))))))) (mRet (mSh (mC (PyData.bool false)))) mNx)
  (mSeq (mFor (mIter (mSl (mVar 1) (mPart (mC (PyData.int 1))) mNoPart)) (mgName 2) (mIfS (mOrT (mNotT (mTest (mIsi "int" (mVar 2)))) (mTest (mIsi "bool" (mVar 2)))) (mRet (mSh (mC (PyData.bool false)))) mNx))
  (mSeq (mIfS (mTest (mBin dNotIn (mBin dIx (mVar 1) (mC (PyData.int 0))) (mBin dAdd (mLst [(mSh (mC (PyData.str "")))]) (mFr (mComp (mIter (mBin dIx (mVar 0) (mC (PyData.int 0)))) [3] (mgName 3) mYes (mBin dIx (mVar 3) (mC (PyData.int 0)))))))) (mRet (mSh (mC (PyData.bool false)))) mNx)
  (mRet (mSh (mBin dInDeep (mVar 1) (mD (mCall f_places_of [(mSh (mVar 0)), (mSh (mBin dIx (mVar 1) (mC (PyData.int 0))))]))))))))
def f_is_place : Fn := fnF 2 4 m_is_place
def m_turned : M Fl := (mSeq (mIfS (mOrT (mNotT (mTest (mIsi "tuple" (mVar 1)))) (mOrT (mTest (mBin dNe (mCallB bLen [(mSh (mVar 1))]) (mC (PyData.int 2)))) (mNotT (mTest (mIsi "str" (mBin dIx (mVar 1) (mC (PyData.int 1)))))))) (mRaise "NoTurn") mNx)
  (mSeq (mAsg (mgTup 2 (mgCons (mgName 3) (mgCons (mgName 4) mgNil))) (mSh (mVar 1)))
  (mSeq (mIfS (mOrT (mTest (mBin dNotIn (mVar 4) (mC c_RULES))) (mNotT (mTest (mD (mCall f_is_place [(mSh (mVar 0)), (mSh (mVar 3))]))))) (mRaise "NoTurn") mNx)
  (mSeq (mSet 2 (mSh (mC PyData.none)))
  (mSeq (mIfS (mTest (mBin dEq (mVar 4) (mC (PyData.str "unread")))) mBad mNx)
  (mSeq (mIfS (mNotT (mTest (mD (mCall f_lets [(mSh (mVar 0)), (mSh (mVar 3)), (mSh (mVar 4)), (mSh (mVar 2))])))) (mRaise "NoTurn") mNx)
  (mRet (mSh (mD (mCall f_without [(mSh (mVar 0)), (mSh (mVar 3))]))))))))))
def f_turned : Fn := fnF 2 5 m_turned
def m__law_deck : M Fl := (mSeq (mSet 1 (mSh (mCallB bList [(mSh (mSl (mVar 0) mNoPart (mPart (mC (PyData.int 63)))))])))
  (mRet (mLo (mNew (mCatO (mSh (mLst [(mSh (mC (PyData.int 0))), (mSh (mBin dAdd (mC (PyData.int 7)) (mBin dMod (mCallB bSum [(mSh (mFr (mComp (mEnum (mVar 1)) [2, 3] (mgTup 2 (mgCons (mgName 2) (mgCons (mgName 3) mgNil))) mYes (mBin dMul (mBin dMod (mVar 3) (mC (PyData.int 1000003))) (mBin dAdd (mVar 2) (mC (PyData.int 1)))))))]) (mC (PyData.int 2147483629)))))])) (mSh (mRev (mVar 1))))))))
def f__law_deck : Fn := fnF 1 4 m__law_deck
def m__law_draw : M Fl := (mSeq (mSetIx (mLV 0) (mC (PyData.int 0)) (mSh (mBin dAdd (mD (mIxC (mLo (mLV 0)) (mC (PyData.int 0)))) (mC (PyData.int 1)))))
  (mSeq (mSet 2 (mSh (mBin dAdd (mD (mIxC (mLo (mLV 0)) (mC (PyData.int 1)))) (mBin dMul (mC (PyData.int 104729)) (mD (mIxC (mLo (mLV 0)) (mC (PyData.int 0))))))))
  (mSeq (mIfS (mTest (mBin dGt (mCallC bLen [(mLo (mLV 0))]) (mC (PyData.int 2)))) (mSeq (mSet 2 (mSh (mD (mPop0 (mLV 0)))))
  (mIfS (mTest (mBin dGe (mVar 2) (mBin dPow (mC (PyData.int 10)) (mC (PyData.int 18))))) (mSeq (mApp (mLV 0) (mSh (mBin dDiv (mVar 2) (mVar 1))))
  (mRet (mSh (mBin dMod (mVar 2) (mVar 1))))) mNx)) mNx)
  (mSeq (mSet 3 (mSh (mBin dMod (mBin dMul (mBin dAdd (mBin dMod (mVar 2) (mC (PyData.int 2147483629))) (mBin dMul (mC (PyData.int 7919)) (mD (mIxC (mLo (mLV 0)) (mC (PyData.int 0)))))) (mC (PyData.int 48271))) (mC (PyData.int 2147483647)))))
  (mSeq (mSet 3 (mSh (mBin dMod (mBin dAdd (mBin dAdd (mBin dMul (mVar 3) (mVar 3)) (mBin dMul (mC (PyData.int 69621)) (mVar 3))) (mD (mIxC (mLo (mLV 0)) (mC (PyData.int 0))))) (mC (PyData.int 2147483587)))))
  (mRet (mSh (mBin dMod (mBin dDiv (mVar 3) (mC (PyData.int 64))) (mVar 1)))))))))
def f__law_draw : Fn := fnF 2 4 m__law_draw
def m__law_some : M Fl := (mRet (mSh (mBin dIx (mLst [(mSh (mD (mCall f__law_draw [(mLo (mLV 0)), (mSh (mBin dAdd (mVar 1) (mC (PyData.int 1))))]))), (mSh (mVar 2))]) (mCallB bInt [(mSh (mBin dEq (mD (mCall f__law_draw [(mLo (mLV 0)), (mSh (mC (PyData.int 8)))])) (mC (PyData.int 1))))]))))
def f__law_some : Fn := fnF 3 3 m__law_some
def m__law_names : M Fl := (mSeq (mSet 2 (mSh (mC (PyData.str "abcdefghijklmnopqrstuvwxyz"))))
  (mSeq (mSet 3 (mLo (mNew (mComp (mRng1 (mBin dAdd (mC (PyData.int 1)) (mD (mCall f__law_draw [(mLo (mLV 0)), (mSh (mC (PyData.int 5)))])))) [7] (mgName 7) mYes (mBin dIx (mVar 2) (mD (mCall f__law_draw [(mLo (mLV 0)), (mSh (mC (PyData.int 26)))])))))))
  (mSeq (mSet 4 (mSh (mD (mCall f__law_draw [(mLo (mLV 0)), (mSh (mCallC bLen [(mLo (mLV 3))]))]))))
  (mSeq (mSet 5 (mSh (mD (mCall f__law_draw [(mLo (mLV 0)), (mSh (mC (PyData.int 26)))]))))
  (mSeq (mSet 6 (mLo (mNew (mLsO []))))
  (mSeq (mFor (mRng1 (mVar 1)) (mgName 7) (mSeq (mSetIx (mLV 3) (mVar 4) (mSh (mBin dIx (mVar 2) (mBin dMod (mBin dAdd (mVar 5) (mVar 7)) (mC (PyData.int 26))))))
  (mApp (mLV 6) (mSh (mBin dAdd (mBin dAdd (mM1C sJoin (mC (PyData.str "")) (mLo (mLV 3))) (mC (PyData.str "q"))) (mBin dMul (mC (PyData.str "z")) (mBin dMod (mVar 7) (mC (PyData.int 2)))))))))
  (mSeq (mIfS (mTest (mBin dEq (mD (mCall f__law_draw [(mLo (mLV 0)), (mSh (mC (PyData.int 4)))])) (mC (PyData.int 1)))) (mSetIx (mLV 6) (mD (mCall f__law_draw [(mLo (mLV 0)), (mSh (mVar 1))])) (mSh (mBin dIx (mLst [(mSh (mC (PyData.str "same"))), (mSh (mC (PyData.str "way"))), (mSh (mC (PyData.str "left"))), (mSh (mC (PyData.str "far"))), (mSh (mC (PyData.str "twice"))), (mSh (mC (PyData.str "unread"))), (mSh (mC (PyData.str "ended"))), (mSh (mC (PyData.str "on")))]) (mBin dMod (mVar 5) (mC (PyData.int 8)))))) mNx)
  (mRet (mSh (mSeal (mLV 6)))))))))))
def f__law_names : Fn := fnF 2 8 m__law_names
def m__law_boxes : M Fl := (mSeq (mSet 2 (mLo (mNew (mLsO [(mSh (mBin dIx (mVar 1) (mC (PyData.int 0)))), (mSh (mBin dIx (mVar 1) (mC (PyData.int 1)))), (mSh (mBin dIx (mVar 1) (mC (PyData.int 2)))), (mSh (mBin dAdd (mBin dAdd (mBin dIx (mVar 1) (mC (PyData.int 0))) (mC (PyData.str "."))) (mBin dIx (mVar 1) (mC (PyData.int 1))))), (mSh (mBin dAdd (mBin dAdd (mBin dIx (mVar 1) (mC (PyData.int 0))) (mC (PyData.str "."))) (mBin dIx (mVar 1) (mC (PyData.int 2))))), (mSh (mBin dIx (mVar 1) (mC (PyData.int 3))))]))))
  (mSeq (mSet 2 (mLo (mNew (mCatO (mLo (mLV 2)) (mSh (mLst [(mSh (mBin dAdd (mBin dAdd (mBin dIx (mVar 1) (mC (PyData.int 3))) (mC (PyData.str "."))) (mBin dIx (mVar 1) (mC (PyData.int 0))))), (mSh (mBin dIx (mVar 1) (mC (PyData.int 4)))), (mSh (mBin dIx (mVar 1) (mC (PyData.int 5))))]))))))
  (mSeq (mIfS (mTest (mBin dEq (mD (mCall f__law_draw [(mLo (mLV 0)), (mSh (mC (PyData.int 4)))])) (mC (PyData.int 1)))) (mSetIx (mLV 2) (mC (PyData.int 5)) (mSh (mBin dAdd (mBin dAdd (mBin dIx (mVar 1) (mC (PyData.int 0))) (mC (PyData.str "k."))) (mBin dIx (mVar 1) (mC (PyData.int 0)))))) mNx)
  (mRet (mSh (mSl (mSlC (mLo (mLV 2)) (mPart (mD (mCall f__law_draw [(mLo (mLV 0)), (mSh (mC (PyData.int 4)))]))) mNoPart) mNoPart (mPart (mBin dAdd (mC (PyData.int 3)) (mD (mCall f__law_some [(mLo (mLV 0)), (mSh (mC (PyData.int 2))), (mSh (mC (PyData.int 5)))]))))))))))
def f__law_boxes : Fn := fnF 2 3 m__law_boxes
def m__law_one_of : M Fl := (mRet (mSh (mD (mIxC (mCl 1) (mD (mCall f__law_draw [(mLo (mLV 0)), (mSh (mCallC bLen [(mCl 1)]))]))))))
def f__law_one_of : Fn := fnF 2 2 m__law_one_of
def m__law_picked : M Fl := (mSeq (mSet 3 (mLo (mNew (mListOf (mSh (mVar 1))))))
  (mSeq (mSet 4 (mLo (mNew (mLsO []))))
  (mSeq (mFor (mRng1 (mCallB (bII fun i j => if j < i then j else i) [(mSh (mVar 2)), (mSh (mCallC bLen [(mLo (mLV 3))]))])) (mgName 5) (mApp (mLV 4) (mSh (mD (mPopAt (mLV 3) (mD (mCall f__law_draw [(mLo (mLV 0)), (mSh (mCallC bLen [(mLo (mLV 3))]))])))))))
  (mRet (mSh (mTupOf (mLo (mLV 4))))))))
def f__law_picked : Fn := fnF 3 6 m__law_picked
def m__law_plain : M Fl := (mSeq (mSet 2 (mSh (mD (mCall f__law_draw [(mLo (mLV 0)), (mSh (mC (PyData.int 11)))]))))
  (mSeq (mAsg (mgLst 3 (mgCons (mgName 3) (mgCons (mgName 4) (mgCons (mgName 5) mgNil)))) (mSh (mFr (mComp (mRng1 (mC (PyData.int 3))) [6] (mgName 6) mYes (mD (mCall f__law_one_of [(mLo (mLV 0)), (mSh (mD (mDGet (mLV 1) (mC (PyData.str "boxes")))))]))))))
  (mSeq (mIfS (mTest (mBin dLt (mVar 2) (mC (PyData.int 2)))) (mRet (mSh (mTup [(mSh (mC (PyData.str "take"))), (mSh (mVar 3)), (mSh (mD (mCall f__law_one_of [(mLo (mLV 0)), (mSh (mD (mDGet (mLV 1) (mC (PyData.str "worths")))))])))]))) mNx)
  (mSeq (mIfS (mTest (mBin dEq (mVar 2) (mC (PyData.int 2)))) (mRet (mSh (mTup [(mSh (mC (PyData.str "ask"))), (mSh (mVar 3))]))) mNx)
  (mSeq (mIfS (mTest (mBin dEq (mVar 2) (mC (PyData.int 3)))) (mRet (mSh (mTup [(mSh (mC (PyData.str "number"))), (mSh (mVar 3)), (mSh (mBin dIx (mLst [(mSh (mC (PyData.int 0))), (mSh (mC (PyData.int 1))), (mSh (mC (PyData.int 9999))), (mSh (mD (mCall f__law_draw [(mLo (mLV 0)), (mSh (mC (PyData.int 10000)))])))]) (mD (mCall f__law_draw [(mLo (mLV 0)), (mSh (mC (PyData.int 4)))]))))]))) mNx)
  (mSeq (mIfS (mTest (mBin dLt (mVar 2) (mC (PyData.int 6)))) (mRet (mSh (mTup [(mSh (mC (PyData.str "copy"))), (mSh (mVar 3)), (mSh (mVar 4))]))) mNx)
  (mSeq (mIfS (mTest (mBin dLt (mVar 2) (mC (PyData.int 8)))) (mRet (mSh (mBin dIx (mLst [(mSh (mTup [(mSh (mC (PyData.str "mix"))), (mSh (mVar 3)), (mSh (mVar 4)), (mSh (mVar 5))])), (mSh (mTup [(mSh (mC (PyData.str "open"))), (mSh (mVar 3)), (mSh (mVar 4))]))]) (mBin dSub (mVar 2) (mC (PyData.int 6)))))) mNx)
  (mSeq (mIfS (mTest (mBin dEq (mVar 2) (mC (PyData.int 8)))) (mRet (mSh (mTup [(mSh (mC (PyData.str "tell"))), (mSh (mVar 3))]))) mNx)
  (mSeq (mIfS (mTest (mBin dEq (mVar 2) (mC (PyData.int 9)))) (mRet (mSh (mTup [(mSh (mC (PyData.str "drop"))), (mSh (mD (mCall f__law_picked [(mLo (mLV 0)), (mSh (mD (mDGet (mLV 1) (mC (PyData.str "boxes"))))), (mSh (mBin dAdd (mC (PyData.int 1)) (mD (mCall f__law_some [(mLo (mLV 0)), (mSh (mC (PyData.int 1))), (mSh (mC (PyData.int 5)))]))))])))]))) mNx)
  (mRet (mSh (mBin dIx (mLst [(mSh (mTup [(mSh (mC (PyData.str "wipe"))), (mSh (mVar 3))])), (mSh (mTup [(mSh (mC (PyData.str "clear"))), (mSh (mBin dIx (mM1 sSplit (mVar 3) (mC (PyData.str "."))) (mC (PyData.int 0))))])), (mSh (mTup [(mSh (mC (PyData.str "clear"))), (mSh (mBin dIx (mM1 sSplit (mBin dIx (mD (mDGet (mLV 1) (mC (PyData.str "boxes")))) (mC (PyData.int 0))) (mC (PyData.str "."))) (mC (PyData.int 0))))]))]) (mD (mCall f__law_draw [(mLo (mLV 0)), (mSh (mC (PyData.int 3)))]))))))))))))))
def f__law_plain : Fn := fnF 2 7 m__law_plain
def m__law_dressed : M Fl := (mSeq (mSet 3 (mSh (mD (mCall f__law_draw [(mLo (mLV 0)), (mSh (mC (PyData.int 8)))]))))
  (mSeq (mSet 4 (mSh (mD (mCall f__law_one_of [(mLo (mLV 0)), (mSh (mVar 1))]))))
  (mSeq (mSet 5 (mSh (mD (mCall f__law_draw [(mLo (mLV 0)), (mSh (mC (PyData.int 9)))]))))
  (mSeq (mIfS (mAndT (mTest (mBin dEq (mVar 3) (mC (PyData.int 1)))) (mTest (mBin dIn (mBin dIx (mVar 2) (mC (PyData.int 0))) (mTup [(mSh (mC (PyData.str "take"))), (mSh (mC (PyData.str "ask"))), (mSh (mC (PyData.str "number"))), (mSh (mC (PyData.str "copy"))), (mSh (mC (PyData.str "mix"))), (mSh (mC (PyData.str "open"))), (mSh (mC (PyData.str "wipe")))])))) (mRet (mSh (mLst [(mSh (mBin dIx (mLst [(mSh (mTup [(mSh (mC (PyData.str "number"))), (mSh (mBin dIx (mVar 2) (mC (PyData.int 1)))), (mSh (mVar 5))])), (mSh (mTup [(mSh (mC (PyData.str "copy"))), (mSh (mBin dIx (mVar 2) (mC (PyData.int 1)))), (mSh (mVar 4))])), (mSh (mTup [(mSh (mC (PyData.str "open"))), (mSh (mBin dIx (mVar 2) (mC (PyData.int 1)))), (mSh (mVar 4))]))]) (mBin dMod (mVar 5) (mC (PyData.int 3))))), (mSh (mVar 2))]))) mNx)
  (mSeq (mIfS (mAndT (mTest (mBin dEq (mVar 3) (mC (PyData.int 2)))) (mTest (mBin dEq (mBin dIx (mVar 2) (mC (PyData.int 0))) (mC (PyData.str "clear"))))) (mRet (mSh (mLst [(mSh (mTup [(mSh (mC (PyData.str "copy"))), (mSh (mBin dIx (mLst [(mSh (mVar 4)), (mSh (mBin dAdd (mBin dAdd (mBin dIx (mVar 2) (mC (PyData.int 1))) (mC (PyData.str "."))) (mBin dIx (mVar 2) (mC (PyData.int 1)))))]) (mBin dMod (mVar 5) (mC (PyData.int 2))))), (mSh (mVar 4))])), (mSh (mVar 2))]))) mNx)
  (mSeq (mIfS (mAndT (mTest (mBin dGt (mVar 3) (mC (PyData.int 4)))) (mTest (mBin dIn (mBin dIx (mVar 2) (mC (PyData.int 0))) (mTup [(mSh (mC (PyData.str "wipe"))), (mSh (mC (PyData.str "clear")))])))) (mRet (mSh (mLst [(mSh (mVar 2)), (mSh (mVar 2))]))) mNx)
  (mSeq (mIfS (mTest (mBin dEq (mVar 3) (mC (PyData.int 0)))) (mRet (mSh (mLst [(mSh (mVar 2)), (mSh (mTup [(mSh (mC (PyData.str "copy"))), (mSh (mVar 4)), (mSh (mVar 4))]))]))) mNx)
  (mSeq (mIfS (mTest (mBin dEq (mVar 3) (mC (PyData.int 3)))) (mRet (mSh (mLst [(mSh (mVar 2)), (mSh (mBin dIx (mLst [(mSh (mTup [(mSh (mC (PyData.str "copy"))), (mSh (mVar 4)), (mSh (mD (mCall f__law_one_of [(mLo (mLV 0)), (mSh (mVar 1))])))])), (mSh (mTup [(mSh (mC (PyData.str "number"))), (mSh (mVar 4)), (mSh (mVar 5))]))]) (mBin dMod (mVar 5) (mC (PyData.int 2)))))]))) mNx)
  (mRet (mSh (mLst [(mSh (mVar 2))])))))))))))
def f__law_dressed : Fn := fnF 3 6 m__law_dressed
def m__law_leading (r : Nat → Fn) : M Fl := (mSeq (mSet 4 (mSh (mD (mCall f__law_draw [(mLo (mLV 0)), (mSh (mC (PyData.int 10)))]))))
  (mSeq (mIfS (mAndT (mTest (mBin dEq (mVar 4) (mC (PyData.int 0)))) (mTest (mBin dGt (mVar 3) (mC (PyData.int 0))))) (mRet (mSh (mTup [(mSh (mC (PyData.str "out"))), (mSh (mBin dAdd (mC (PyData.int 1)) (mD (mCall f__law_draw [(mLo (mLV 0)), (mSh (mVar 3))]))))]))) mNx)
  (mSeq (mIfS (mTest (mBin dEq (mVar 4) (mC (PyData.int 1)))) (mRet (mSh (mTup [(mSh (mBin dIx (mLst [(mSh (mC (PyData.str "risk"))), (mSh (mC (PyData.str "risk"))), (mSh (mC (PyData.str "risk"))), (mSh (mC (PyData.str "fault")))]) (mD (mCall f__law_draw [(mLo (mLV 0)), (mSh (mC (PyData.int 4)))])))), (mSh (mD (mCall f__law_one_of [(mLo (mLV 0)), (mSh (mD (mDGet (mLV 1) (mC (PyData.str "faults")))))])))]))) mNx)
  (mSeq (mIfS (mAndT (mTest (mBin dEq (mVar 4) (mC (PyData.int 2)))) (mTest (mBin dEq (mD (mCall f__law_draw [(mLo (mLV 0)), (mSh (mC (PyData.int 4)))])) (mC (PyData.int 0))))) (mRet (mSh (mTup [(mSh (mC (PyData.str "back")))]))) mNx)
  (mSeq (mIfS (mAndT (mTest (mBin dLt (mVar 4) (mC (PyData.int 7)))) (mTest (mBinC dNe (mLo (mL (mDGet (mLV 1) (mC (PyData.str "defs"))))) (mSh (mLst []))))) (mSeq (mAsg (mgTup 3 (mgCons (mgName 10) (mgCons (mgName 11) (mgCons (mgName 12) mgNil)))) (mSh (mD (mCall f__law_one_of [(mLo (mLV 0)), (mLo (mL (mDGet (mLV 1) (mC (PyData.str "defs")))))]))))
  (mSeq (mSet 5 (mSh (mD (mCall f__law_picked [(mLo (mLV 0)), (mSh (mD (mDGet (mLV 1) (mC (PyData.str "boxes"))))), (mSh (mCallB bLen [(mSh (mVar 11))]))]))))
  (mSeq (mSet 6 (mSh (mD (mCall f__law_picked [(mLo (mLV 0)), (mSh (mD (mDGet (mLV 1) (mC (PyData.str "boxes"))))), (mSh (mCallB bLen [(mSh (mVar 12))]))]))))
  (mIfS (mAndT (mTest (mBin dEq (mCallB bLen [(mSh (mVar 5))]) (mCallB bLen [(mSh (mVar 11))]))) (mTest (mBin dEq (mCallB bLen [(mSh (mVar 6))]) (mCallB bLen [(mSh (mVar 12))])))) (mRet (mSh (mTup [(mSh (mC (PyData.str "call"))), (mSh (mVar 10)), (mSh (mVar 5)), (mSh (mVar 6))]))) mNx)))) mNx)
  (mSeq (mIfS (mAndT (mTest (mBin dEq (mVar 4) (mC (PyData.int 7)))) (mTest (mBin dGt (mVar 2) (mC (PyData.int 0))))) (mSeq (mSet 7 (mSh (mD (mCall (r 1) [(mLo (mLV 0)), (mLo (mLV 1)), (mSh (mBin dSub (mVar 2) (mC (PyData.int 1)))), (mSh (mBin dAdd (mVar 3) (mC (PyData.int 1)))), (mSh (mC (PyData.int 3)))]))))
  (mSeq (mSet 8 (mSh (mCallB bInt [(mSh (mAndV (mBin dGt (mD (mCall f__law_draw [(mLo (mLV 0)), (mSh (mC (PyData.int 3)))])) (mC (PyData.int 0))) (mBin dGt (mD (mDGet (mLV 1) (mC (PyData.str "room")))) (mC (PyData.int 0)))))])))
  (mSeq (mDPut (mLV 1) (mC (PyData.str "room")) (mSh (mBin dSub (mD (mDGet (mLV 1) (mC (PyData.str "room")))) (mVar 8))))
  (mRet (mSh (mTup [(mSh (mC (PyData.str "loop"))), (mSh (mBin dAdd (mVar 7) (mBin dMulO (mTup [(mSh (mTup [(mSh (mC (PyData.str "out"))), (mSh (mC (PyData.int 1)))]))]) (mVar 8))))])))))) mNx)
  (mSeq (mIfS (mTest (mBin dGt (mVar 2) (mC (PyData.int 0)))) (mSeq (mSet 9 (mSh (mBin dAdd (mC (PyData.int 1)) (mD (mCall f__law_some [(mLo (mLV 0)), (mSh (mC (PyData.int 1))), (mSh (mC (PyData.int 3)))])))))
  (mRet (mSh (mTup [(mSh (mC (PyData.str "choose"))), (mSh (mCallB bTuple [(mSh (mFr (mComp (mRng1 (mVar 9)) [13] (mgName 13) mYes (mD (mCall (r 1) [(mLo (mLV 0)), (mLo (mLV 1)), (mSh (mBin dSub (mVar 2) (mC (PyData.int 1)))), (mSh (mVar 3)), (mSh (mC (PyData.int 2)))])))))]))])))) mNx)
  (mRet (mSh (mTup [(mSh (mC (PyData.str "risk"))), (mSh (mD (mCall f__law_one_of [(mLo (mLV 0)), (mSh (mD (mDGet (mLV 1) (mC (PyData.str "faults")))))])))]))))))))))
def m__law_grown (r : Nat → Fn) : M Fl := (mSeq (mSet 5 (mLo (mNew (mLsO []))))
  (mSeq (mFor (mRng1 (mD (mCall f__law_draw [(mLo (mLV 0)), (mSh (mBin dAdd (mVar 4) (mC (PyData.int 1))))]))) (mgName 6) (mIfS (mTest (mBin dGt (mD (mDGet (mLV 1) (mC (PyData.str "room")))) (mC (PyData.int 0)))) (mSeq (mDPut (mLV 1) (mC (PyData.str "room")) (mSh (mBin dSub (mD (mDGet (mLV 1) (mC (PyData.str "room")))) (mC (PyData.int 1)))))
  (mSeq (mSet 7 (mSh (mD (mCall f__law_plain [(mLo (mLV 0)), (mLo (mLV 1))]))))
  (mSeq (mIfS (mTest (mBin dEq (mD (mCall f__law_draw [(mLo (mLV 0)), (mSh (mC (PyData.int 3)))])) (mC (PyData.int 0)))) (mSet 7 (mSh (mD (mCall (r 0) [(mLo (mLV 0)), (mLo (mLV 1)), (mSh (mVar 2)), (mSh (mVar 3))])))) mNx)
  (mExt (mLV 5) (mSh (mD (mCall f__law_dressed [(mLo (mLV 0)), (mSh (mD (mDGet (mLV 1) (mC (PyData.str "boxes"))))), (mSh (mVar 7))]))))))) mNx))
  (mRet (mSh (mTupOf (mLo (mLV 5)))))))
def f_G22 : Nat → Nat → Fn
  | 0, _ => fun _ _ => .bad
  | k + 1, 0 => fnF 4 14 (m__law_leading (f_G22 k)) | k + 1, _ => fnF 5 8 (m__law_grown (f_G22 k))
def f__law_grown : Fn := f_G22 14 1
def m__law_program : M Fl := (mSeq (mSet 4 (mSh (mD (mCall f__law_boxes [(mLo (mLV 0)), (mSh (mVar 1))]))))
  (mSeq (mSet 5 (mLo (mDisp [((mC (PyData.str "boxes")), (mSh (mVar 4))), ((mC (PyData.str "worths")), (mSh (mBin dAdd (mSl (mVar 1) (mPart (mC (PyData.int 6))) (mPart (mC (PyData.int 9)))) (mSl (mVar 1) mNoPart (mPart (mC (PyData.int 3))))))), ((mC (PyData.str "faults")), (mSh (mSl (mVar 1) (mPart (mC (PyData.int 9))) (mPart (mC (PyData.int 11)))))), ((mC (PyData.str "defs")), (mLo (mNew (mLsO [])))), ((mC (PyData.str "room")), (mSh (mC (PyData.int 0))))])))
  (mSeq (mSet 6 (mLo (mNew (mLsO []))))
  (mSeq (mFor (mRng1 (mVar 2)) (mgName 7) (mSeq (mSet 8 (mSh (mD (mCall f__law_picked [(mLo (mLV 0)), (mSh (mVar 4)), (mSh (mD (mCall f__law_some [(mLo (mLV 0)), (mSh (mC (PyData.int 2))), (mSh (mC (PyData.int 4)))])))]))))
  (mSeq (mSet 9 (mSh (mD (mCall f__law_picked [(mLo (mLV 0)), (mSh (mVar 4)), (mSh (mD (mCall f__law_some [(mLo (mLV 0)), (mSh (mC (PyData.int 2))), (mSh (mC (PyData.int 4)))])))]))))
  (mSeq (mDPut (mLV 5) (mC (PyData.str "room")) (mSh (mBin dIx (mLst [(mSh (mC (PyData.int 5))), (mSh (mC (PyData.int 3)))]) (mCallB bInt [(mSh (mBin dGt (mVar 2) (mC (PyData.int 3))))]))))
  (mSeq (mApp (mLV 6) (mSh (mTup [(mSh (mBin dIx (mVar 1) (mBin dAdd (mC (PyData.int 11)) (mVar 7)))), (mSh (mVar 8)), (mSh (mVar 9)), (mSh (mD (mCall f__law_grown [(mLo (mLV 0)), (mLo (mLV 5)), (mSh (mC (PyData.int 2))), (mSh (mC (PyData.int 0))), (mSh (mC (PyData.int 4)))])))])))
  (mApp (mL (mDGet (mLV 5) (mC (PyData.str "defs")))) (mSh (mSl (mD (mIxC (mLo (mLV 6)) (mNeg (mC (PyData.int 1))))) mNoPart (mPart (mC (PyData.int 3)))))))))))
  (mSeq (mDPut (mLV 5) (mC (PyData.str "room")) (mSh (mVar 3)))
  (mRet (mSh (mTup [(mSh (mTupOf (mLo (mLV 6)))), (mSh (mBin dAdd (mD (mCall f__law_grown [(mLo (mLV 0)), (mLo (mLV 5)), (mSh (mC (PyData.int 3))), (mSh (mC (PyData.int 0))), (mSh (mC (PyData.int 5)))])) (mD (mCall f__law_grown [(mLo (mLV 0)), (mLo (mLV 5)), (mSh (mC (PyData.int 2))), (mSh (mC (PyData.int 0))), (mSh (mC (PyData.int 6)))]))))]))))))))
def f__law_program : Fn := fnF 4 10 m__law_program
def m__law_spots (r : Nat → Fn) : M Fl := (mSeq (mSet 2 (mLo (mNew (mLsO []))))
  (mSeq (mFor (mEnum (mVar 0)) (mgTup 2 (mgCons (mgName 3) (mgCons (mgName 4) mgNil))) (mSeq (mApp (mLV 2) (mSh (mBin dAdd (mVar 1) (mTup [(mSh (mVar 3))]))))
  (mSeq (mSet 5 (mSh (mD (mDGet2 (mDisp [((mC (PyData.str "loop")), (mSh (mSl (mVar 4) (mPart (mC (PyData.int 1))) mNoPart))), ((mC (PyData.str "choose")), (mSh (mBin dIx (mVar 4) (mNeg (mC (PyData.int 1))))))]) (mBin dIx (mVar 4) (mC (PyData.int 0))) (mSh (mTup []))))))
  (mFor (mEnum (mVar 5)) (mgTup 2 (mgCons (mgName 6) (mgCons (mgName 7) mgNil))) (mExt (mLV 2) (mSh (mD (mCall (r 0) [(mSh (mVar 7)), (mSh (mBin dAdd (mVar 1) (mTup [(mSh (mVar 3)), (mSh (mVar 6))])))]))))))))
  (mRet (mSh (mSeal (mLV 2))))))
def f_G24 : Nat → Nat → Fn
  | 0, _ => fun _ _ => .bad
  | k + 1, _ => fnF 2 8 (m__law_spots (f_G24 k))
def f__law_spots : Fn := f_G24 14 0
def m__law_all_spots : M Fl := (mSeq (mSet 1 (mLo (mNew (mLsO []))))
  (mSeq (mFor (mIter (mBin dIx (mVar 0) (mC (PyData.int 0)))) (mgName 2) (mExt (mLV 1) (mSh (mD (mCall f__law_spots [(mSh (mBin dIx (mVar 2) (mC (PyData.int 3)))), (mSh (mTup [(mSh (mBin dIx (mVar 2) (mC (PyData.int 0))))]))])))))
  (mRet (mSh (mFr (mCatO (mLo (mLV 1)) (mSh (mD (mCall f__law_spots [(mSh (mBin dIx (mVar 0) (mC (PyData.int 1)))), (mSh (mTup [(mSh (mC (PyData.str "")))]))])))))))))
def f__law_all_spots : Fn := fnF 1 3 m__law_all_spots
def m__law_cut (r : Nat → Fn) : M Fl := (mSeq (mSet 2 (mSh (mBin dIx (mVar 1) (mC (PyData.int 0)))))
  (mSeq (mIfS (mTest (mBin dEq (mCallB bLen [(mSh (mVar 1))]) (mC (PyData.int 1)))) (mRet (mSh (mBin dAdd (mSl (mVar 0) mNoPart (mPart (mVar 2))) (mSl (mVar 0) (mPart (mBin dAdd (mVar 2) (mC (PyData.int 1)))) mNoPart)))) mNx)
  (mSeq (mSet 3 (mSh (mBin dIx (mVar 0) (mVar 2))))
  (mSeq (mIfS (mTest (mBin dEq (mBin dIx (mVar 3) (mC (PyData.int 0))) (mC (PyData.str "loop")))) (mRet (mSh (mBin dAdd (mBin dAdd (mSl (mVar 0) mNoPart (mPart (mVar 2))) (mTup [(mSh (mTup [(mSh (mC (PyData.str "loop"))), (mSh (mD (mCall (r 0) [(mSh (mBin dIx (mVar 3) (mC (PyData.int 1)))), (mSh (mSl (mVar 1) (mPart (mC (PyData.int 2))) mNoPart))])))]))])) (mSl (mVar 0) (mPart (mBin dAdd (mVar 2) (mC (PyData.int 1)))) mNoPart)))) mNx)
  (mSeq (mSet 4 (mSh (mFr (mComp (mEnum (mBin dIx (mVar 3) (mC (PyData.int 1)))) [5, 6] (mgTup 2 (mgCons (mgName 5) (mgCons (mgName 6) mgNil))) mYes (mIfE (mTest (mBin dEq (mVar 5) (mBin dIx (mVar 1) (mC (PyData.int 1))))) (mD (mCall (r 0) [(mSh (mVar 6)), (mSh (mSl (mVar 1) (mPart (mC (PyData.int 2))) mNoPart))])) (mVar 6))))))
  (mRet (mSh (mBin dAdd (mBin dAdd (mSl (mVar 0) mNoPart (mPart (mVar 2))) (mTup [(mSh (mTup [(mSh (mC (PyData.str "choose"))), (mSh (mCallB bTuple [(mSh (mVar 4))]))]))])) (mSl (mVar 0) (mPart (mBin dAdd (mVar 2) (mC (PyData.int 1)))) mNoPart)))))))))
def f_G26 : Nat → Nat → Fn
  | 0, _ => fun _ _ => .bad
  | k + 1, _ => fnF 2 7 (m__law_cut (f_G26 k))
def f__law_cut : Fn := f_G26 14 0
def m__law_without : M Fl := (mSeq (mIfS (mTest (mBin dEq (mBin dIx (mVar 1) (mC (PyData.int 0))) (mC (PyData.str "")))) (mRet (mSh (mTup [(mSh (mBin dIx (mVar 0) (mC (PyData.int 0)))), (mSh (mD (mCall f__law_cut [(mSh (mBin dIx (mVar 0) (mC (PyData.int 1)))), (mSh (mSl (mVar 1) (mPart (mC (PyData.int 1))) mNoPart))])))]))) mNx)
  (mSeq (mSet 2 (mSh (mFr (mComp (mIter (mBin dIx (mVar 0) (mC (PyData.int 0)))) [3] (mgName 3) mYes (mIfE (mTest (mBin dEq (mBin dIx (mVar 3) (mC (PyData.int 0))) (mBin dIx (mVar 1) (mC (PyData.int 0))))) (mBin dAdd (mSl (mVar 3) mNoPart (mPart (mC (PyData.int 3)))) (mTup [(mSh (mD (mCall f__law_cut [(mSh (mBin dIx (mVar 3) (mC (PyData.int 3)))), (mSh (mSl (mVar 1) (mPart (mC (PyData.int 1))) mNoPart))])))])) (mVar 3))))))
  (mRet (mSh (mTup [(mSh (mCallB bTuple [(mSh (mVar 2))])), (mSh (mBin dIx (mVar 0) (mC (PyData.int 1))))])))))
def f__law_without : Fn := fnF 2 4 m__law_without
def m__law_told : M Fl := (mSeq (mSet 2 (mSh (mC PyData.none)))
  (mSeq (mTryAs 3 (hitOf [("NoTurn", true)]) (mSet 2 (mSh (mTup [(mSh (mC (PyData.str "told"))), (mSh (mD (mCallX f_turned [(mSh (mVar 0)), (mSh (mVar 1))])))]))) (msIf "NoTurn" (fun num => (mSeq (mSet 4 (mSh (mOrV (mIsB (some false)) (mNotV (mIsB (some true))))))
  (mSet 2 (mSh (mTup [(mSh (mC (PyData.str "refused"))), (mSh (mAndV (mIsB (some true)) (mNotV (mVar 4))))]))))) msBad))
  (mRet (mSh (mVar 2)))))
def f__law_told : Fn := fnF 2 5 m__law_told
def m__law_row : M Fl := (mSeq (mSet 2 (mSh (mBin dIx (mVar 0) (mC (PyData.int 1)))))
  (mSeq (mFor (mIter (mBin dIx (mVar 0) (mC (PyData.int 0)))) (mgName 3) (mIfS (mTest (mBin dEq (mBin dIx (mVar 3) (mC (PyData.int 0))) (mBin dIx (mVar 1) (mC (PyData.int 0))))) (mSet 2 (mSh (mBin dIx (mVar 3) (mC (PyData.int 3))))) mNx))
  (mSeq (mFor (mRng3 (mC (PyData.int 1)) (mBin dSub (mCallB bLen [(mSh (mVar 1))]) (mC (PyData.int 1))) (mC (PyData.int 2))) (mgName 4) (mSeq (mSet 5 (mSh (mBin dIx (mVar 2) (mBin dIx (mVar 1) (mVar 4)))))
  (mSeq (mSet 2 (mSh (mBin dIx (mVar 5) (mC (PyData.int 1)))))
  (mIfS (mTest (mBin dEq (mBin dIx (mVar 5) (mC (PyData.int 0))) (mC (PyData.str "choose")))) (mSet 2 (mSh (mBin dIx (mBin dIx (mVar 5) (mC (PyData.int 1))) (mBin dIx (mVar 1) (mBin dAdd (mVar 4) (mC (PyData.int 1))))))) mNx))))
  (mRet (mSh (mVar 2))))))
def f__law_row : Fn := fnF 2 6 m__law_row
def m__law_lets_plain : M Fl := (mSeq (mSet 3 (mSh (mD (mCall f__law_row [(mSh (mVar 0)), (mSh (mVar 1))]))))
  (mSeq (mSet 4 (mSh (mBin dIx (mVar 3) (mBin dIx (mVar 1) (mNeg (mC (PyData.int 1)))))))
  (mSeq (mSet 5 (mSh (mBin dIx (mBin dAdd (mVar 3) (mTup [(mSh (mTup [(mSh (mC (PyData.str "none")))]))])) (mBin dAdd (mBin dIx (mVar 1) (mNeg (mC (PyData.int 1)))) (mC (PyData.int 1))))))
  (mSeq (mIfS (mTest (mBin dEq (mVar 2) (mC (PyData.str "same")))) (mRet (mSh (mAndV (mBin dEq (mBin dIx (mVar 4) (mC (PyData.int 0))) (mC (PyData.str "copy"))) (mBin dEq (mBin dIx (mVar 4) (mC (PyData.int 1))) (mBin dIx (mVar 4) (mC (PyData.int 2))))))) mNx)
  (mSeq (mIfS (mTest (mBin dEq (mVar 2) (mC (PyData.str "twice")))) (mRet (mSh (mAndV (mBin dIn (mBin dIx (mVar 4) (mC (PyData.int 0))) (mTup [(mSh (mC (PyData.str "wipe"))), (mSh (mC (PyData.str "clear")))])) (mBin dEq (mVar 5) (mVar 4))))) mNx)
  (mSeq (mIfS (mTest (mBin dNotIn (mBin dIx (mVar 4) (mC (PyData.int 0))) (mTup [(mSh (mC (PyData.str "number"))), (mSh (mC (PyData.str "copy"))), (mSh (mC (PyData.str "mix"))), (mSh (mC (PyData.str "open")))]))) (mRet (mSh (mC (PyData.bool false)))) mNx)
  (mSeq (mIfS (mTest (mBin dIn (mBin dIx (mVar 5) (mC (PyData.int 0))) (mTup [(mSh (mC (PyData.str "copy"))), (mSh (mC (PyData.str "mix"))), (mSh (mC (PyData.str "open")))]))) (mRet (mSh (mAndV (mBin dEq (mBin dIx (mVar 5) (mC (PyData.int 1))) (mBin dIx (mVar 4) (mC (PyData.int 1)))) (mBin dNotIn (mBin dIx (mVar 4) (mC (PyData.int 1))) (mSl (mVar 5) (mPart (mC (PyData.int 2))) mNoPart))))) mNx)
  (mSeq (mIfS (mTest (mBin dEq (mBin dIx (mVar 5) (mC (PyData.int 0))) (mC (PyData.str "clear")))) (mRet (mSh (mAndV (mBin dIn (mC (PyData.str ".")) (mBin dIx (mVar 4) (mC (PyData.int 1)))) (mBin dEq (mBin dIx (mM1 sSplit (mBin dIx (mVar 4) (mC (PyData.int 1))) (mC (PyData.str "."))) (mC (PyData.int 0))) (mBin dIx (mVar 5) (mC (PyData.int 1))))))) mNx)
  (mRet (mSh (mAndV (mBin dIn (mBin dIx (mVar 5) (mC (PyData.int 0))) (mTup [(mSh (mC (PyData.str "take"))), (mSh (mC (PyData.str "ask"))), (mSh (mC (PyData.str "number"))), (mSh (mC (PyData.str "wipe")))])) (mBin dEq (mBin dIx (mVar 5) (mC (PyData.int 1))) (mBin dIx (mVar 4) (mC (PyData.int 1)))))))))))))))
def f__law_lets_plain : Fn := fnF 3 6 m__law_lets_plain
def m_law : M Fl := (mSeq (mSet 1 (mLo (mL (mCall f__law_deck [(mSh (mVar 0))]))))
  (mSeq (mSet 2 (mSh (mD (mCall f__law_names [(mLo (mLV 1)), (mSh (mC (PyData.int 17)))]))))
  (mSeq (mSet 3 (mSh (mD (mCall f__law_program [(mLo (mLV 1)), (mSh (mVar 2)), (mSh (mD (mCall f__law_some [(mLo (mLV 1)), (mSh (mC (PyData.int 2))), (mSh (mC (PyData.int 6)))]))), (mSh (mC (PyData.int 12)))]))))
  (mSeq (mSet 4 (mSh (mD (mCall f__law_all_spots [(mSh (mVar 3))]))))
  (mSeq (mSet 5 (mSh (mBin dAdd (mC (PyData.int 1)) (mBin dDiv (mCallB bLen [(mSh (mVar 4))]) (mC (PyData.int 20))))))
  (mSeq (mFor (mIter (mStep (mVar 4) (mPart (mD (mCall f__law_draw [(mLo (mLV 1)), (mSh (mVar 5))]))) (mPart (mVar 5)))) (mgName 6) (mFor (mIter (mLst [(mSh (mC (PyData.str "same"))), (mSh (mC (PyData.str "twice")))])) (mgName 7) (mSeq (mSet 8 (mSh (mTup [(mSh (mC (PyData.str "refused"))), (mSh (mC (PyData.bool true)))])))
  (mSeq (mIfS (mTest (mD (mCall f__law_lets_plain [(mSh (mVar 3)), (mSh (mVar 6)), (mSh (mVar 7))]))) (mSet 8 (mSh (mTup [(mSh (mC (PyData.str "told"))), (mSh (mD (mCall f__law_without [(mSh (mVar 3)), (mSh (mVar 6))])))]))) mNx)
  (mIfS (mTest (mBin dNe (mD (mCall f__law_told [(mSh (mVar 3)), (mSh (mTup [(mSh (mVar 6)), (mSh (mVar 7))]))])) (mVar 8))) (mRet (mSh (mC (PyData.bool false)))) mNx)))))
  (mRet (mSh (mC (PyData.bool true))))))))))
def f_law : Fn := fnF 1 9 m_law
/-- the law is True at every script: said upon data -/
def Good : Prop := ∀ ns : List Int, ns.length ≤ 63 → ∃ s, f_law [.sh (.list (ns.map PyData.int))] [] = .ok (.sh (.bool true)) s
end Ds.K60
namespace Ds.K60
open PySem PySem.Spec PyProof.Rows L2 Dn TL
def srt (L : List Str) : List Str := sortT (metT L)
theorem srt_mem {L : List Str} {x : Str} : x ∈ srt L ↔ x ∈ L := by
  unfold srt sortT
  rw [List.mem_mergeSort, mem_metT]
theorem srt_len {L : List Str} : (srt L).length ≤ L.length := by
  unfold srt sortT
  rw [List.length_mergeSort]
  exact metT_len L
theorem srt_same {L M : List Str} (h : ∀ x, x ∈ L ↔ x ∈ M) : srt L = srt M := sortT_same h
theorem srt_nil : srt [] = [] := List.length_eq_zero_iff.mp (Nat.le_zero.mp (srt_len (L := [])))
theorem srt_one {w : Str} : srt [w] = [w] := by
  have h1 : (srt [w]).length ≤ 1 := srt_len
  have h2 : w ∈ srt [w] := srt_mem.mpr (by simp)
  match srt [w], h1, h2 with
  | [x], _, h2 => simp at h2; rw [h2]
  | _ :: _ :: _, h1, _ => simp at h1
theorem srt_nd {L : List Str} : (srt L).Nodup := (List.mergeSort_perm _ _).nodup_iff.mpr (metT_nodup L)
/-- some of those, rising, each once -/
def Wl (Ws ws : List Str) : Prop := ∃ p : Str → Bool, ws = srt (Ws.filter p)
theorem filter_none (L : List Str) : L.filter (fun _ => false) = [] := by simp
theorem Wl.nil {Ws : List Str} : Wl Ws [] := ⟨fun _ => false, by rw [filter_none, srt_nil]⟩
theorem Wl.one {Ws : List Str} {w : Str} (h : w ∈ Ws) : Wl Ws [w] := by
  refine ⟨fun x => decide (x = w), ?_⟩
  have e : srt (Ws.filter fun x => decide (x = w)) = srt [w] := srt_same fun x => by
    rw [List.mem_filter, List.mem_singleton]
    refine ⟨fun z => of_decide_eq_true z.2, fun z => ⟨z ▸ h, decide_eq_true z⟩⟩
  rw [e, srt_one]
theorem Wl.len {Ws ws : List Str} (h : Wl Ws ws) : ws.length ≤ Ws.length := by
  obtain ⟨p, rfl⟩ := h
  exact Nat.le_trans srt_len (List.length_filter_le _ _)
theorem Wl.app {Ws ws vs : List Str} (h : Wl Ws ws) (k : Wl Ws vs) : Wl Ws (srt (ws ++ vs)) := by
  obtain ⟨p, rfl⟩ := h
  obtain ⟨q, rfl⟩ := k
  refine ⟨fun x => p x || q x, srt_same fun x => ?_⟩
  rw [List.mem_append, srt_mem, srt_mem, List.mem_filter, List.mem_filter, List.mem_filter, Bool.or_eq_true]
  constructor
  · rintro (⟨a, b⟩ | ⟨a, b⟩)
    · exact ⟨a, .inl b⟩
    · exact ⟨a, .inr b⟩
  · rintro ⟨a, b | b⟩
    · exact .inl ⟨a, b⟩
    · exact .inr ⟨a, b⟩
abbrev Vl := Int × List Str
abbrev Th := List (Str × Vl)
def zer : Vl := (0, [])
def valD (v : Vl) : D := .tuple [.int v.1, .tuple (v.2.map PyData.str)]
def kvE (A : Th) : List (Key × Cl) := A.map fun p => (.inr p.1, .sh (valD p.2))
def lookA (A : Th) (x : Str) : Option Vl := (A.find? fun p => decide (p.1 = x)).map (·.2)
def look (A : Th) (x : Str) : Vl := (lookA A x).getD zer
def putA (A : Th) (x : Str) (v : Vl) : Th := if (A.any fun p => decide (p.1 = x)) = true then A.map (fun p => if p.1 = x then (p.1, v) else p) else A ++ [(x, v)]
def dropA (A : Th) (x : Str) : Th := A.filter fun p => decide (p.1 ≠ x)
def keysA (A : Th) : List Str := A.map (·.1)
theorem lookA_none {A : Th} {x : Str} : lookA A x = none ↔ x ∉ keysA A := by
  unfold lookA keysA
  rw [Option.map_eq_none_iff, List.find?_eq_none, List.mem_map]
  constructor
  · rintro h ⟨p, hp, e⟩
    exact h p hp (decide_eq_true e)
  · intro h p hp e
    exact h ⟨p, hp, of_decide_eq_true e⟩
theorem look_put {A : Th} {x y : Str} {v : Vl} : look (putA A x v) y = if y = x then v else look A y := by
  unfold look
  have key : lookA (putA A x v) y = if y = x then some v else lookA A y := by
    unfold putA
    by_cases ha : (A.any fun p => decide (p.1 = x)) = true
    · rw [if_pos ha]
      by_cases h : y = x
      · subst h
        rw [if_pos rfl]
        induction A with
        | nil => cases ha
        | cons p A ih =>
          by_cases hp : p.1 = y
          · simp [lookA, hp]
          · have ha2 : (A.any fun p => decide (p.1 = y)) = true := by simpa [hp] using ha
            have := ih ha2
            rw [List.map_cons, if_neg hp]
            simpa [lookA, List.find?_cons, hp] using this
      · rw [if_neg h]
        clear ha
        induction A with
        | nil => rfl
        | cons p A ih =>
          by_cases hp : p.1 = x
          · have hy : ¬ p.1 = y := fun z => h (z.symm.trans hp)
            rw [List.map_cons, if_pos hp]
            simpa [lookA, List.find?_cons, hy] using ih
          · rw [List.map_cons, if_neg hp]
            by_cases hy : p.1 = y
            · simp [lookA, List.find?_cons, hy]
            · simpa [lookA, List.find?_cons, hy] using ih
    · rw [if_neg ha]
      have hn : A.find? (fun p => decide (p.1 = x)) = none := List.find?_eq_none.mpr fun p hp z => ha (List.any_eq_true.mpr ⟨p, hp, z⟩)
      unfold lookA
      rw [List.find?_append]
      by_cases h : y = x
      · subst h
        rw [hn, if_pos rfl]
        simp
      · rw [if_neg h]
        have : ([(x, v)] : Th).find? (fun p => decide (p.1 = y)) = none := by simp [Ne.symm h]
        rw [this, Option.or_none]
  rw [key]
  split <;> rfl
theorem look_drop {A : Th} {x y : Str} : look (dropA A x) y = if y = x then zer else look A y := by
  unfold look
  have key : lookA (dropA A x) y = if y = x then none else lookA A y := by
    by_cases h : y = x
    · subst h
      rw [if_pos rfl, lookA_none]
      unfold keysA dropA
      rw [List.mem_map]
      rintro ⟨p, hp, e⟩
      exact of_decide_eq_true (List.mem_filter.mp hp).2 e
    · rw [if_neg h]
      unfold lookA dropA
      rw [List.find?_filter]
      congr 2
      funext p
      by_cases hp : p.1 = y
      · simp [hp, h]
      · simp [hp]
  rw [key]
  split <;> rfl
theorem keys_put {A : Th} {x : Str} {v : Vl} (h : (keysA A).Nodup) : (keysA (putA A x v)).Nodup := by
  unfold putA keysA
  split
  · rw [List.map_map]
    have e : ((fun p : Str × Vl => p.1) ∘ fun p => if p.1 = x then (p.1, v) else p) = fun p : Str × Vl => p.1 := by
      funext p
      show (if p.1 = x then (p.1, v) else p).1 = p.1
      split <;> rfl
    rw [e]
    exact h
  · rename_i hn
    rw [List.map_append]
    refine List.nodup_append.mpr ⟨h, by simp, fun y hy z hz => ?_⟩
    simp at hz
    subst hz
    intro e
    subst e
    obtain ⟨p, hp, e⟩ := List.mem_map.mp hy
    exact hn (List.any_eq_true.mpr ⟨p, hp, decide_eq_true e⟩)
theorem keys_filter {A : Th} {q : Str × Vl → Bool} (h : (keysA A).Nodup) : (keysA (A.filter q)).Nodup := (List.filter_sublist.map _).nodup h
theorem put_mem {A : Th} {x : Str} {v : Vl} {p : Str × Vl} (h : p ∈ putA A x v) : p ∈ A ∨ p = (x, v) := by
  unfold putA at h
  split at h
  · obtain ⟨q, hq, e⟩ := List.mem_map.mp h
    by_cases z : q.1 = x
    · rw [if_pos z] at e; subst e; subst z; exact .inr rfl
    · rw [if_neg z] at e; subst e; exact .inl hq
  · rcases List.mem_append.mp h with h | h
    · exact .inl h
    · simp at h; exact .inr h
theorem put_len {A : Th} {x : Str} {v : Vl} : (putA A x v).length ≤ A.length + 1 := by
  unfold putA
  split
  · rw [List.length_map]; omega
  · rw [List.length_append]; exact Nat.le_refl _
/-- as the program puts: nothing is kept of what is nothing -/
def pute (A : Th) (x : Str) (v : Vl) : Th := if v = zer then dropA A x else putA A x v
theorem look_pute {A : Th} {x y : Str} {v : Vl} : look (pute A x v) y = if y = x then v else look A y := by
  unfold pute
  split
  · rename_i h
    rw [look_drop, h]
  · exact look_put
def dropAll (A : Th) (xs : List Str) : Th := xs.foldl dropA A
theorem look_dropAll : ∀ {xs : List Str} {A : Th} {y : Str}, look (dropAll A xs) y = if y ∈ xs then zer else look A y
  | [], A, y => by simp [dropAll]
  | x :: xs, A, y => by
    show look (dropAll (dropA A x) xs) y = _
    rw [look_dropAll, look_drop]
    by_cases h : y ∈ xs
    · simp [h]
    · by_cases hx : y = x
      · simp [hx]
      · simp [h, hx]
theorem dropAll_mem {p : Str × Vl} : ∀ {xs : List Str} {A : Th}, p ∈ dropAll A xs → p ∈ A
  | [], _, h => h
  | x :: xs, A, h => (List.mem_filter.mp (dropAll_mem (xs := xs) (A := dropA A x) h)).1
theorem dropAll_nd : ∀ {xs : List Str} {A : Th}, (keysA A).Nodup → (keysA (dropAll A xs)).Nodup
  | [], _, h => h
  | x :: xs, A, h => dropAll_nd (xs := xs) (keys_filter h)
/-- what stands in it -/
structure ThOk (Ws Bs : List Str) (c : Nat) (A : Th) : Prop where
  nd : (keysA A).Nodup
  len : A.length ≤ c
  ok : ∀ p ∈ A, p.1 ∈ Bs ∧ Wl Ws p.2.2
section
variable {Ws Bs : List Str} {c : Nat} {A : Th}
theorem ThOk.put (h : ThOk Ws Bs c A) {x : Str} {v : Vl} (hx : x ∈ Bs) (w : Wl Ws v.2) : ThOk Ws Bs (c + 1) (putA A x v) :=
  ⟨keys_put h.nd, Nat.le_trans put_len (Nat.succ_le_succ h.len), fun p hp => (put_mem hp).elim (h.ok p) fun e => e ▸ ⟨hx, w⟩⟩
theorem ThOk.filter (h : ThOk Ws Bs c A) (q : Str × Vl → Bool) : ThOk Ws Bs c (A.filter q) :=
  ⟨keys_filter h.nd, Nat.le_trans (List.length_filter_le _ _) h.len, fun p hp => h.ok p (List.mem_filter.mp hp).1⟩
theorem ThOk.up (h : ThOk Ws Bs c A) {d : Nat} (k : c ≤ d) : ThOk Ws Bs d A := ⟨h.nd, Nat.le_trans h.len k, h.ok⟩
theorem ThOk.nil : ThOk Ws Bs 0 [] := ⟨List.nodup_nil, Nat.le_refl _, fun _ h => nomatch h⟩
end
inductive Wd where
  | take (x w : Str)
  | ask (x : Str)
  | number (x : Str) (n : Int)
  | copy (x y : Str)
  | mix (x y z : Str)
  | opn (x y : Str)
  | tell (x : Str)
  | wipe (x : Str)
  | clear (n : Str)
  | drop (xs : List Str)
def encW : Wd → D
  | .take x w => .tuple [.str "take", .str x, .str w]
  | .ask x => .tuple [.str "ask", .str x]
  | .number x n => .tuple [.str "number", .str x, .int n]
  | .copy x y => .tuple [.str "copy", .str x, .str y]
  | .mix x y z => .tuple [.str "mix", .str x, .str y, .str z]
  | .opn x y => .tuple [.str "open", .str x, .str y]
  | .tell x => .tuple [.str "tell", .str x]
  | .wipe x => .tuple [.str "wipe", .str x]
  | .clear n => .tuple [.str "clear", .str n]
  | .drop xs => .tuple [.str "drop", .tuple (xs.map PyData.str)]
def skeys (A : Th) : List Str := srt (keysA A)
def keptD (pl : D) (A : Th) : List D := ((skeys A).filter fun x => !(look A x).2.isEmpty).map fun x => .tuple [pl, .str x, .tuple ((look A x).2.map PyData.str)]
def shownD (A : Th) : D := .tuple ((skeys A).map fun x => .tuple [.str x, .int (look A x).1, .tuple ((look A x).2.map PyData.str)])
def dropped (A : Th) (xs : List Str) : Th := xs.foldl (fun M x => pute M x (look A x)) []
def tellP (A : Th) : Wd → List Int
  | .tell x => [(look A x).1]
  | _ => []
/-- the words that a law puts in -/
def WdOk (Ws Bs : List Str) : Wd → Prop
  | .take x w => x ∈ Bs ∧ w ∈ Ws
  | .ask x => x ∈ Bs
  | .number x _ => x ∈ Bs
  | .copy x y => x ∈ Bs ∧ y ∈ Bs
  | .mix x y z => x ∈ Bs ∧ y ∈ Bs ∧ z ∈ Bs
  | .opn x y => x ∈ Bs ∧ y ∈ Bs
  | .tell x => x ∈ Bs
  | .wipe x => x ∈ Bs
  | .clear n => Ok 10 n ∧ 46 ∉ tl n
  | .drop xs => (∀ x ∈ xs, x ∈ Bs) ∧ xs.length ≤ 10
end Ds.K60
namespace Ds.K60
open PySem PySem.Spec PyProof.Rows L2 Dn TL
theorem srt_pw {L : List Str} : (srt L).Pairwise fun a b => leS a b = true := List.pairwise_mergeSort leS_trans leS_total _
theorem srt_filter {L : List Str} {p : Str → Bool} : (srt L).filter p = srt (L.filter p) := by
  refine sort_one (srt_pw.filter _) srt_pw ((List.perm_ext_iff_of_nodup (srt_nd.filter _) srt_nd).mpr fun x => ?_)
  rw [List.mem_filter, srt_mem, srt_mem, List.mem_filter]
/-- what is popped, one behind the other -/
def goneL : Th → List Str → List (Str × List Str)
  | _, [] => []
  | B, x :: xs => (x, (look B x).2) :: goneL (dropA B x) xs
structure Rel (A B : Th) : Prop where
  eq : ∀ x, look A x = look B x
  a : (keysA A).Nodup
  b : (keysA B).Nodup
  nz : ∀ p ∈ A, p.2 ≠ zer
theorem Rel.nil : Rel [] [] := ⟨fun _ => rfl, List.nodup_nil, List.nodup_nil, fun _ h => nomatch h⟩
section
variable {A B : Th}
theorem nz_keys {x : Str} (h : look B x ≠ zer) : x ∈ keysA B := by
  by_cases k : x ∈ keysA B
  · exact k
  · unfold look at h
    rw [lookA_none.mpr k] at h
    exact absurd rfl h
theorem pute_nz {x : Str} {v : Vl} (h : ∀ p ∈ A, p.2 ≠ zer) : ∀ p ∈ pute A x v, p.2 ≠ zer := fun p hp => by
  unfold pute at hp
  split at hp
  · exact h p (List.mem_filter.mp hp).1
  · rename_i hv
    rcases put_mem hp with z | z
    · exact h p z
    · rw [z]; exact hv
theorem pute_nd {x : Str} {v : Vl} (h : (keysA A).Nodup) : (keysA (pute A x v)).Nodup := by
  unfold pute
  split
  · exact keys_filter h
  · exact keys_put h
theorem Rel.put (h : Rel A B) {x : Str} {v : Vl} : Rel (pute A x v) (putA B x v) :=
  ⟨fun y => by rw [look_pute, look_put, h.eq], pute_nd h.a, keys_put h.b, pute_nz h.nz⟩
theorem Rel.drop (h : Rel A B) (xs : List Str) : Rel (dropAll A xs) (dropAll B xs) :=
  ⟨fun y => by rw [look_dropAll, look_dropAll, h.eq], dropAll_nd h.a, dropAll_nd h.b, fun p hp => h.nz p (dropAll_mem hp)⟩
theorem Rel.tell (h : Rel A B) (w : Wd) : tellP A w = tellP B w := by
  cases w with
  | tell x => show [_] = [_]; rw [h.eq]
  | _ => rfl
theorem look_fold {A : Th} : ∀ {xs : List Str} {M : Th} {y : Str}, look (xs.foldl (fun M x => pute M x (look A x)) M) y = if y ∈ xs then look A y else look M y
  | [], M, y => by simp
  | x :: xs, M, y => by
    rw [List.foldl_cons, look_fold, look_pute]
    by_cases h : y ∈ xs
    · simp [h]
    · by_cases hx : y = x
      · simp [hx]
      · simp [h, hx]
theorem look_dropped {xs : List Str} {y : Str} : look (dropped A xs) y = if y ∈ xs then look A y else zer := look_fold
theorem gone_mem : ∀ {xs : List Str} {B : Th} {x : Str} {ws : List Str}, (x, ws) ∈ (goneL B xs).filter (fun p => !p.2.isEmpty) ↔ x ∈ xs ∧ ws = (look B x).2 ∧ ws ≠ []
  | [], B, x, ws => by simp [goneL]
  | y :: xs, B, x, ws => by
    have hne : ∀ ws : List Str, (!ws.isEmpty) = true ↔ ws ≠ [] := fun ws => by cases ws <;> simp
    have ih := gone_mem (xs := xs) (B := dropA B y) (x := x) (ws := ws)
    rw [List.mem_filter] at ih ⊢
    show (x, ws) ∈ (y, (look B y).2) :: goneL (dropA B y) xs ∧ _ ↔ _
    rw [List.mem_cons, hne]
    rw [hne, look_drop] at ih
    by_cases h : x = y
    · subst h
      rw [if_pos rfl] at ih
      constructor
      · rintro ⟨z | z, k⟩
        · exact ⟨by simp, (Prod.mk.inj z).2, k⟩
        · have := (ih.mp ⟨z, k⟩).2.1
          exact absurd this k
      · rintro ⟨_, e, k⟩
        exact ⟨.inl (by rw [e]), k⟩
    · rw [if_neg h] at ih
      constructor
      · rintro ⟨z | z, k⟩
        · exact absurd (Prod.mk.inj z).1 h
        · obtain ⟨a, b, c⟩ := ih.mp ⟨z, k⟩
          exact ⟨List.mem_cons_of_mem _ a, b, c⟩
      · rintro ⟨a, b, c⟩
        rcases List.mem_cons.mp a with a | a
        · exact absurd a h
        · exact ⟨.inr (ih.mpr ⟨a, b, c⟩).1, c⟩
def outK (B : Th) (xs : List Str) : List Str := ((goneL B xs).filter fun p => !p.2.isEmpty).map (·.1)
theorem mem_outK {xs : List Str} {x : Str} : x ∈ outK B xs ↔ x ∈ xs ∧ (look B x).2 ≠ [] := by
  unfold outK
  rw [List.mem_map]
  constructor
  · rintro ⟨⟨y, ws⟩, hp, rfl⟩
    obtain ⟨a, b, c⟩ := gone_mem.mp hp
    exact ⟨a, b ▸ c⟩
  · rintro ⟨a, b⟩
    exact ⟨(x, (look B x).2), gone_mem.mpr ⟨a, rfl, b⟩, rfl⟩
theorem ws_keys {C : Th} {x : Str} (h : (look C x).2 ≠ []) : x ∈ keysA C := nz_keys fun z => h (by rw [z]; rfl)
theorem Rel.out (h : Rel A B) {pl : D} {xs : List Str} : keptD pl (dropped A xs) = (srt (outK B xs)).map fun x => .tuple [pl, .str x, .tuple ((look B x).2.map PyData.str)] := by
  unfold keptD skeys
  rw [srt_filter]
  have e : srt ((keysA (dropped A xs)).filter fun x => !(look (dropped A xs) x).2.isEmpty) = srt (outK B xs) := srt_same fun x => by
    have hne : ∀ ws : List Str, (!ws.isEmpty) = true ↔ ws ≠ [] := fun ws => by cases ws <;> simp
    rw [List.mem_filter, mem_outK, hne]
    constructor
    · rintro ⟨_, k⟩
      rw [look_dropped] at k
      by_cases hx : x ∈ xs
      · rw [if_pos hx, h.eq] at k
        exact ⟨hx, k⟩
      · rw [if_neg hx] at k
        exact absurd rfl k
    · rintro ⟨a, b⟩
      have k : (look (dropped A xs) x).2 ≠ [] := by
        rw [look_dropped, if_pos a, h.eq]
        exact b
      exact ⟨ws_keys k, k⟩
  rw [e]
  refine List.map_congr_left fun x hx => ?_
  have hx := (mem_outK.mp (srt_mem.mp hx)).1
  rw [look_dropped, if_pos hx, h.eq]
/-- what is left at the end -/
theorem Rel.kept (h : Rel A B) {pl : D} : keptD pl A = ((skeys A).filter fun x => !(look B x).2.isEmpty).map fun x => .tuple [pl, .str x, .tuple ((look B x).2.map PyData.str)] := by
  unfold keptD
  have e : (fun x => !(look A x).2.isEmpty) = fun x => !(look B x).2.isEmpty := by funext x; rw [h.eq]
  rw [e]
  refine List.map_congr_left fun x _ => ?_
  rw [h.eq]
theorem Rel.shown (h : Rel A B) : shownD A = .tuple ((skeys A).map fun x => .tuple [.str x, .int (look B x).1, .tuple ((look B x).2.map PyData.str)]) := by
  unfold shownD
  congr 1
  refine List.map_congr_left fun x _ => ?_
  rw [h.eq]
end
end Ds.K60
namespace Ds.K60
open PySem PySem.Spec PyProof.Rows L2 Dn TL
def ffs (at_ : D) (th : Nat) : List (Str × Cl) := [("called_at", .sh at_), ("things", .lo th)]
/-- a frame at fr, its dict at th -/
structure Fo (fr th : Nat) (at_ : D) (A : Th) (s : St) : Prop where
  i : s[fr]? = some (.ins "Frame" (ffs at_ th))
  d : s[th]? = some (.dk (kvE A))
  ne : fr ≠ th
theorem Fo.fz {fr th : Nat} {at_ : D} {A : Th} {s s' : St} (h : Fo fr th at_ A s) (f : Fz s s') : Fo fr th at_ A s' := ⟨f.at_ h.i, f.at_ h.d, h.ne⟩
theorem Fo.put {fr th : Nat} {at_ : D} {A B : Th} {s : St} (h : Fo fr th at_ A s) : Fo fr th at_ B (s.set th (.dk (kvE B))) := ⟨(set_other h.ne).trans h.i, set_same (lt_of_at h.d), h.ne⟩
theorem at0 {d : D} {r : List D} : dIx (.tuple (d :: r)) (.int 0) = some d := by
  show atI (d :: r) 0 = some d
  unfold atI ixN
  rw [if_pos (by omega), if_pos (by rw [List.length_cons]; omega)]
  rfl
end Ds.K60
namespace Ds.K60
open PySem PySem.Spec PyProof.Rows L2 Dn TL
def Lo (x : Str) : Prop := Ok 8 x ∧ 46 ∉ tl x
def parts (x : Str) : List Str := Txt.split x "."
theorem bx_parts {x : Str} {Q : D → Prop} (hx : x.length ≤ 100000) (h : Q (.list ((parts x).map PyData.str))) : ∃ c, sSplit x [.str "."] = some c ∧ Q c := bx_split rfl (by unfold sizeLine; omega) h
theorem spl_first (r : List Nat) : ∀ (l acc : List Nat), 46 ∉ l → spl [46] 0 acc (l ++ 46 :: r) = (acc ++ l) :: spl [46] 0 [] r
  | [], acc, _ => by
    rw [List.nil_append, spl_hit (by simp [pre]), List.append_nil]
    rfl
  | c :: l, acc, h => by
    rw [List.cons_append, spl_miss (by simp [pre]; intro z; exact absurd (z ▸ List.mem_cons_self) h), spl_first r l _ fun z => h (List.mem_cons_of_mem _ z)]
    simp
theorem spl_none : ∀ (l acc : List Nat), 46 ∉ l → spl [46] 0 acc l = [acc ++ l]
  | [], acc, _ => by simp [spl]
  | c :: l, acc, h => by
    rw [spl_miss (by simp [pre]; intro z; exact absurd (z ▸ List.mem_cons_self) h), spl_none l _ fun z => h (List.mem_cons_of_mem _ z)]
    simp
theorem tl_dot (x y : Str) : tl (x ++ "." ++ y) = tl x ++ 46 :: tl y := by
  rw [tl_append, tl_append, List.append_assoc]
  rfl
theorem first_part {x y : Str} (h : Lo x) : ∃ rest, parts (x ++ "." ++ y) = x :: rest := by
  have e := split_spl (x ++ "." ++ y) ⟨#[46]⟩ (by simp [tl]) (kind_ok (sep_ok (by decide)))
  rw [tl_dot, show tl (⟨#[46]⟩ : Str) = [46] from rfl, spl_first _ _ _ h.2] at e
  cases q : Txt.split (x ++ "." ++ y) ⟨#[46]⟩ with
  | nil => rw [q] at e; simp at e
  | cons p rest =>
    rw [q] at e
    have := (List.cons.inj e).1
    have hp : p = x := ext_tl (by simpa using this)
    exact ⟨rest, q.trans (by rw [hp])⟩
theorem only_part {x : Str} (h : Lo x) : parts x = [x] := by
  have e := split_spl x ⟨#[46]⟩ (by simp [tl]) (kind_ok (sep_ok (by decide)))
  rw [show tl (⟨#[46]⟩ : Str) = [46] from rfl, spl_none _ _ h.2] at e
  cases q : Txt.split x ⟨#[46]⟩ with
  | nil => rw [q] at e; simp at e
  | cons p rest =>
    rw [q] at e
    have h1 := (List.cons.inj e).1
    have h2 := (List.cons.inj e).2
    have hp : p = x := ext_tl (by simpa using h1)
    have hr : rest = [] := by cases rest with
      | nil => rfl
      | cons _ _ => simp at h2
    rw [hp, hr] at q
    exact q
/-- a box: a name, or two with a dot between -/
inductive Bxo : Str → Prop where
  | one {a : Str} : Lo a → Bxo a
  | two {a b : Str} : Lo a → Lo b → Bxo (a ++ "." ++ b)
theorem Bxo.ok {x : Str} (h : Bxo x) : Ok 20 x := by
  cases h with
  | one h => exact h.1.mono (by decide)
  | two h k => exact ((h.1.append (Ok.lit "." 1 (by decide))).append k.1).mono (by decide)
/-- the first name of a box -/
theorem Bxo.first {x : Str} (h : Bxo x) : ∃ a rest, Lo a ∧ parts x = a :: rest := by
  cases h with
  | one h => exact ⟨_, [], h, only_part h⟩
  | two h k => obtain ⟨r, e⟩ := first_part (y := _) h; exact ⟨_, r, h, e⟩
end Ds.K60
namespace Ds.K60
open PySem PySem.Spec PyProof.Rows L2 Dn TL
inductive Nd where
  | pl (w : Wd)
  | choose (rs : List (List Nd))
  | loop (r : List Nd)
  | out (n : Nat)
  | risk (x : Str)
  | fault (x : Str)
  | back
  | call (f : Str) (as gs : List Str)
abbrev Rw := List Nd
def rowsN : Nd → List Rw
  | .choose rs => rs
  | .loop r => [r]
  | _ => []
def isLp : Option Nd → Bool
  | some (.loop _) => true
  | _ => false
/-- the row of a place and its number -/
def rowR (R : Rw) : List Nat → Option (Rw × Nat)
  | i :: j :: q => (rowR R q).bind fun x => (x.1[x.2]?).bind fun w => ((rowsN w)[j]?).map fun r => (r, i)
  | [i] => some (R, i)
  | [] => none
/-- the word there -/
def wdR (R : Rw) (q : List Nat) : Option Nd := (rowR R q).bind fun x => x.1[x.2]?
/-- the place behind -/
def aftR (R : Rw) : List Nat → List Nat
  | i :: j :: q => match rowR R (i :: j :: q) with
    | some x => if i + 1 < x.1.length then (i + 1) :: j :: q else if isLp (wdR R q) = true then q else aftR R q
    | none => []
  | [i] => [i + 1]
  | [] => []
/-- the n-th loop around -/
def upR (R : Rw) : List Nat → Nat → List Nat
  | _ :: _ :: q, n => if isLp (wdR R q) = true then (if n = 1 then q else upR R q (n - 1)) else upR R q n
  | q, _ => q
def outR (R : Rw) (q : List Nat) (n : Nat) : List Nat := aftR R (upR R q n)
def lpsR (R : Rw) : List Nat → Nat
  | _ :: _ :: q => (if isLp (wdR R q) = true then 1 else 0) + lpsR R q
  | _ => 0
/-- a right place -/
def Vp (R : Rw) (q : List Nat) : Prop := ∃ r i, rowR R q = some (r, i) ∧ (i < r.length ∨ (q.length = 1 ∧ i = r.length))
theorem rowR_two {R : Rw} {i j : Nat} {q : List Nat} {r : Rw} {k : Nat} (h : rowR R (i :: j :: q) = some (r, k)) : k = i ∧ ∃ w, wdR R q = some w ∧ (rowsN w)[j]? = some r := by
  unfold rowR at h
  obtain ⟨x, h1, h2⟩ := Option.bind_eq_some_iff.mp h
  obtain ⟨w, h3, h4⟩ := Option.bind_eq_some_iff.mp h2
  obtain ⟨r', h5, h6⟩ := Option.map_eq_some_iff.mp h4
  cases h6
  exact ⟨rfl, w, by unfold wdR; rw [h1]; exact h3, h5⟩
theorem rowR_of {R : Rw} {i j : Nat} {q : List Nat} {r : Rw} {w : Nd} (h : wdR R q = some w) (hj : (rowsN w)[j]? = some r) : rowR R (i :: j :: q) = some (r, i) := by
  unfold wdR at h
  obtain ⟨x, h1, h2⟩ := Option.bind_eq_some_iff.mp h
  unfold rowR
  rw [h1, Option.bind_some, h2, Option.bind_some, hj]
  rfl
theorem rowR_num {R : Rw} {i : Nat} {q : List Nat} {r : Rw} {k : Nat} (h : rowR R (i :: q) = some (r, k)) : k = i := by
  cases q with
  | nil => cases h; rfl
  | cons j q => exact (rowR_two h).1
theorem wdR_some {R : Rw} {q : List Nat} {w : Nd} (h : wdR R q = some w) : ∃ r i, rowR R q = some (r, i) ∧ r[i]? = some w ∧ i < r.length := by
  unfold wdR at h
  obtain ⟨⟨r, i⟩, h1, h2⟩ := Option.bind_eq_some_iff.mp h
  exact ⟨r, i, h1, h2, (List.getElem?_eq_some_iff.mp h2).1⟩
theorem Vp.of {R : Rw} {q : List Nat} {w : Nd} (h : wdR R q = some w) : Vp R q := by
  obtain ⟨r, i, h1, _, h3⟩ := wdR_some h
  exact ⟨r, i, h1, .inl h3⟩
theorem rowR_step {R : Rw} {i k : Nat} {q : List Nat} {r : Rw} (h : rowR R (i :: q) = some (r, i)) : rowR R (k :: q) = some (r, k) := by
  cases q with
  | nil => cases h; rfl
  | cons j q =>
    obtain ⟨_, w, h1, h2⟩ := rowR_two h
    exact rowR_of h1 h2
/-- behind a word stands a right place -/
theorem Vp.aft {R : Rw} : ∀ {q : List Nat} {w : Nd}, wdR R q = some w → Vp R (aftR R q)
  | [], w, h => by cases h
  | [i], w, h => by
    obtain ⟨r, k, h1, _, h3⟩ := wdR_some h
    cases h1
    refine ⟨R, i + 1, rfl, ?_⟩
    by_cases e : i + 1 < R.length
    · exact .inl e
    · exact .inr ⟨rfl, by omega⟩
  | i :: j :: q, w, h => by
    obtain ⟨r, k, h1, h2, h3⟩ := wdR_some h
    obtain ⟨rfl, u, h4, h5⟩ := rowR_two h1
    unfold aftR
    rw [h1]
    dsimp only
    by_cases e : k + 1 < r.length
    · rw [if_pos e]
      exact ⟨r, k + 1, rowR_of h4 h5, .inl e⟩
    · rw [if_neg e]
      by_cases l : isLp (wdR R q) = true
      · rw [if_pos l]
        exact Vp.of h4
      · rw [if_neg l]
        exact Vp.aft h4
/-- the n-th loop around stands there -/
theorem up_loop {R : Rw} : ∀ {q : List Nat} {n : Nat} {r : Rw} {k : Nat}, rowR R q = some (r, k) → 1 ≤ n → n ≤ lpsR R q → isLp (wdR R (upR R q n)) = true
  | [], n, r, k, h, _, _ => by cases h
  | [i], n, r, k, _, h1, h2 => by
    have h2 : n ≤ 0 := h2
    omega
  | i :: j :: q, n, r, k, h, h1, h2 => by
    obtain ⟨_, w, h4, _⟩ := rowR_two h
    obtain ⟨r', k', h5, _, _⟩ := wdR_some h4
    unfold lpsR at h2
    unfold upR
    by_cases l : isLp (wdR R q) = true
    · rw [if_pos l] at h2 ⊢
      by_cases e : n = 1
      · rw [if_pos e]; exact l
      · rw [if_neg e]
        exact up_loop h5 (by omega) (by omega)
    · rw [if_neg l] at h2 ⊢
      exact up_loop h5 h1 (by omega)
theorem lp_some {R : Rw} {q : List Nat} (h : isLp (wdR R q) = true) : ∃ r, wdR R q = some (.loop r) := by
  cases z : wdR R q with
  | none => rw [z] at h; cases h
  | some w =>
    rw [z] at h
    cases w with
    | loop r => exact ⟨r, rfl⟩
    | _ => cases h
theorem Vp.out {R : Rw} {q : List Nat} {n : Nat} (h : Vp R q) (h1 : 1 ≤ n) (h2 : n ≤ lpsR R q) : Vp R (outR R q n) := by
  obtain ⟨r, k, h, _⟩ := h
  obtain ⟨r', e⟩ := lp_some (up_loop h h1 h2)
  exact Vp.aft e
end Ds.K60
namespace Ds.K60
open PySem PySem.Spec PyProof.Rows L2 Dn TL
mutual
def encN : Nd → D
  | .pl w => encW w
  | .choose rs => .tuple [.str "choose", .tuple (encRs rs)]
  | .loop r => .tuple [.str "loop", .tuple (encR r)]
  | .out n => .tuple [.str "out", .int n]
  | .risk x => .tuple [.str "risk", .str x]
  | .fault x => .tuple [.str "fault", .str x]
  | .back => .tuple [.str "back"]
  | .call f as gs => .tuple [.str "call", .str f, .tuple (as.map PyData.str), .tuple (gs.map PyData.str)]
def encR : List Nd → List D
  | [] => []
  | w :: r => encN w :: encR r
def encRs : List (List Nd) → List D
  | [] => []
  | r :: rs => .tuple (encR r) :: encRs rs
end
theorem encR_map : ∀ r : Rw, encR r = r.map encN
  | [] => by unfold encR; rfl
  | w :: r => by unfold encR; rw [encR_map r]; rfl
theorem encRs_map : ∀ rs : List Rw, encRs rs = rs.map fun r => .tuple (encR r)
  | [] => by unfold encRs; rfl
  | r :: rs => by unfold encRs; rw [encRs_map rs]; rfl
theorem encR_len (r : Rw) : (encR r).length = r.length := by rw [encR_map, List.length_map]
theorem encR_get {r : Rw} {i : Nat} {w : Nd} (h : r[i]? = some w) : (encR r)[i]? = some (encN w) := by rw [encR_map, List.getElem?_map, h]; rfl
theorem encRs_get {rs : List Rw} {i : Nat} {r : Rw} (h : rs[i]? = some r) : (encRs rs)[i]? = some (.tuple (encR r)) := by rw [encRs_map, List.getElem?_map, h]; rfl
structure Df where
  nm : Str
  ps : List Str
  rs : List Str
  row : Rw
structure Pg where
  ds : List Df
  main : Rw
def encD (d : Df) : D := .tuple [.str d.nm, .tuple (d.ps.map PyData.str), .tuple (d.rs.map PyData.str), .tuple (encR d.row)]
def wholeP (P : Pg) : D := .tuple [.tuple (P.ds.map encD), .tuple (encR P.main)]
def defOf (P : Pg) (f : Str) : Option Df := P.ds.find? fun d => decide (d.nm = f)
def rowOf (P : Pg) (nm : Str) : Option Rw := if nm = "" then some P.main else (defOf P nm).map Df.row
def plD (nm : Str) (pl : List Nat) : D := .tuple (.str nm :: pl.map fun i : Nat => PyData.int (i : Int))
def plR (nm : Str) (q : List Nat) : D := plD nm q.reverse
/-- the word there, None at the end -/
def wdD (R : Rw) (q : List Nat) : D := match wdR R q with
  | some w => encN w
  | none => .none
theorem rowR_tail {R : Rw} {v : List Nat} (hv : v ≠ []) : ∀ (m : Nat) {u : List Nat} {x : Rw × Nat}, u.length = 2 * m → rowR R (u ++ v) = some x → ∃ y, rowR R v = some y
  | 0, u, x, hu, h => by
    obtain rfl := List.length_eq_zero_iff.mp (by omega : u.length = 0)
    exact ⟨x, h⟩
  | m + 1, a :: b :: u, x, hu, h => by
    obtain ⟨_, w, h1, _⟩ := rowR_two (r := x.1) (k := x.2) h
    obtain ⟨r, i, h2, _⟩ := wdR_some h1
    exact rowR_tail hv m (by simp at hu; omega) h2
  | m + 1, [], x, hu, h => by simp at hu
  | m + 1, [a], x, hu, h => by simp at hu; omega
theorem rowR_odd {R : Rw} : ∀ {q : List Nat} {x : Rw × Nat}, rowR R q = some x → ∃ c, q.length = 2 * c + 1
  | [], x, h => by cases h
  | [i], x, h => ⟨0, rfl⟩
  | i :: j :: q, x, h => by
    obtain ⟨_, w, h1, _⟩ := rowR_two (r := x.1) (k := x.2) h
    obtain ⟨r, k, h2, _⟩ := wdR_some h1
    obtain ⟨c, hc⟩ := rowR_odd h2
    exact ⟨c + 1, by simp; omega⟩
theorem rng_step {c : Nat} (h : c ≤ 100) : bRng3 (.int 2) (.int ((2 * c + 1 + 1 : Nat) : Int)) (.int 2) = some (stepD 2 2 c) := by
  have e : Builtin.Range.rangeSize 2 ((2 * c + 1 + 1 : Nat) : Int) 2 = c := by
    unfold Builtin.Range.rangeSize
    rw [if_pos (by decide)]
    by_cases h0 : c = 0
    · subst h0
      rfl
    · rw [if_pos (by omega)]
      omega
  have ok : okStep 2 ((2 * c + 1 + 1 : Nat) : Int) 2 = true := by
    unfold okStep Builtin.Range.small
    rw [e]
    unfold Builtin.Range.rangeFitsLong
    rw [if_pos (by decide)]
    simp
    omega
  show (if okStep 2 ((2 * c + 1 + 1 : Nat) : Int) 2 = true then some (stepD 2 ((2 : Int)) (Builtin.Range.rangeSize 2 ((2 * c + 1 + 1 : Nat) : Int) 2).toNat) else none) = _
  rw [if_pos ok, e]
  rfl
theorem stepD_at {lo c : Int} {n i : Nat} {d : D} (h : (stepD lo c n)[i]? = some d) : d = .int (lo + (i : Nat) * c) ∧ i < n := by
  unfold stepD at h
  rw [List.getElem?_map] at h
  obtain ⟨k, h1, rfl⟩ := Option.map_eq_some_iff.mp h
  have hi := (List.getElem?_eq_some_iff.mp h1).1
  rw [List.length_range] at hi
  rw [List.getElem?_range hi] at h1
  cases h1
  exact ⟨rfl, hi⟩
theorem stepD_length {lo c : Int} {n : Nat} : (stepD lo c n).length = n := by unfold stepD; simp
theorem ix_pl {nm : Str} {pl : List Nat} {a v : Nat} {k : Int} (h : pl[a]? = some v) (hk : k = ((a + 1 : Nat) : Int)) : dIx (plD nm pl) (.int k) = some (.int (v : Int)) := by
  subst hk
  have hlt := (List.getElem?_eq_some_iff.mp h).1
  show atI (PyData.str nm :: pl.map fun i : Nat => PyData.int (i : Int)) ((a + 1 : Nat) : Int) = _
  unfold atI ixN
  rw [if_pos (by omega), if_pos (by rw [List.length_cons, List.length_map]; omega)]
  simp [h]
theorem ix_at {ws : List D} {i : Nat} {w : D} (h : ws[i]? = some w) : dIx (.tuple ws) (.int (i : Int)) = some w := by
  have hlt := (List.getElem?_eq_some_iff.mp h).1
  show atI ws (i : Int) = _
  unfold atI ixN
  rw [if_pos (by omega), if_pos (by omega)]
  show ws[((i : Int)).toNat]? = some w
  rw [Int.toNat_natCast]
  exact h
theorem pl_length {nm : Str} {pl : List Nat} : (PyData.str nm :: pl.map fun i : Nat => PyData.int (i : Int)).length = pl.length + 1 := by simp
theorem last_ix {xs : List D} {d : D} : dIx (.list (xs ++ [d])) (.int (-1)) = some d := by
  show atI (xs ++ [d]) (-1) = some d
  unfold atI ixN
  rw [if_neg (by omega), if_pos (by simp; omega)]
  show (xs ++ [d])[((-1 : Int) + ((xs ++ [d]).length : Nat)).toNat]? = some d
  have e : ((-1 : Int) + ((xs ++ [d]).length : Nat)).toNat = xs.length := by simp; omega
  rw [e, List.getElem?_append_right (Nat.le_refl _), Nat.sub_self]
  rfl
/-- two numbers more -/
theorem rev_at {u v : List Nat} {i j k : Nat} {t : Nat} (hv : (i :: v).length = 2 * t + 1) : ((u ++ k :: j :: i :: v).reverse)[2 * t]? = some i ∧ ((u ++ k :: j :: i :: v).reverse)[2 * t + 1]? = some j ∧ ((u ++ k :: j :: i :: v).reverse)[2 * t + 2]? = some k := by
  have e : (u ++ k :: j :: i :: v).reverse = v.reverse ++ (i :: j :: k :: u.reverse) := by simp
  have hl : v.reverse.length = 2 * t := by rw [List.length_reverse]; simp at hv; omega
  rw [e]
  refine ⟨?_, ?_, ?_⟩
  · rw [List.getElem?_append_right (by omega), hl, Nat.sub_self]; rfl
  · rw [List.getElem?_append_right (by omega), hl, show 2 * t + 1 - 2 * t = 1 by omega]; rfl
  · rw [List.getElem?_append_right (by omega), hl, show 2 * t + 2 - 2 * t = 2 by omega]; rfl
end Ds.K60
namespace Ds.K60
open PySem PySem.Spec PyProof.Rows L2 Dn TL
section
variable {s : St} {Q : Cl → St → Prop} {R : Rw} {q : List Nat} {P : Pg} {nm : Str}
theorem def_of_ {d : Df} {f : Str} (h : defOf P f = some d) (k : Q (.sh (encD d)) s) : FRun f_def_of [.sh (wholeP P), .sh (.str f)] s Q := by
  refine frun_fn rfl ?_
  unfold m_def_of wholeP
  repeat walk_at "ds"
  refine run_forR _ (fun rem e s' => s' = s ∧ ∃ (C : List Df) (z : Cl), rem = C.map encD ∧ C.find? (fun d => decide (d.nm = f)) = some d ∧ e = [.sh (.tuple [.tuple (P.ds.map encD), .tuple (encR P.main)]), .sh (.str f), z]) ⟨rfl, P.ds, _, rfl, h, rfl⟩ (fun x rem e s' hI => ?_) fun e s' hI => ?_
  · obtain ⟨rfl, C, z, hr, hf, rfl⟩ := hI
    cases C with
    | nil => cases hr
    | cons c C =>
      rw [List.map_cons] at hr
      injection hr with hr1 hr2
      subst hr1
      subst hr2
      refine ⟨_, rfl, ?_⟩
      unfold encD
      repeat walk_at "ds"
      refine two_dec (fun e => ?_) (fun e => ?_)
      · rw [List.find?_cons, decide_eq_true e] at hf
        cases hf
        repeat walk_at "ds"
        rw [trim_len rfl]
        exact k
      · rw [List.find?_cons, decide_eq_false e] at hf
        repeat walk_at "ds"
        exact ⟨rfl, C, _, rfl, hf, rfl⟩
  · obtain ⟨rfl, C, z, hr, hf, rfl⟩ := hI
    exfalso
    cases C with
    | nil => cases hf
    | cons c C => cases hr
theorem row_of_ (HR : rowOf P nm = some R) (h : Q (.sh (.tuple (encR R))) s) : FRun f_row_of [.sh (wholeP P), .sh (.str nm)] s Q := by
  refine frun_fn rfl ?_
  unfold m_row_of
  repeat walk_at "ds"
  refine two_dec (fun e => ?_) (fun e => ?_)
  · unfold rowOf at HR
    rw [if_pos e] at HR
    cases HR
    unfold wholeP
    repeat walk_at "ds"
    rw [trim_len rfl]
    exact h
  · unfold rowOf at HR
    rw [if_neg e] at HR
    obtain ⟨d, hd, rfl⟩ := Option.map_eq_some_iff.mp HR
    repeat walk_at "ds"
    refine def_of_ hd ?_
    unfold encD
    repeat walk_at "ds"
    rw [trim_len rfl]
    exact h
theorem rows_in_ {w : Nd} (h : Q (.sh (.tuple (encRs (rowsN w)))) s) : FRun f_rows_in [.sh (encN w)] s Q := by
  refine frun_fn rfl ?_
  unfold m_rows_in
  cases w with
  | choose rs =>
    unfold encN
    repeat walk_at "ds"
    rw [trim_len rfl]
    exact h
  | loop r =>
    have e : encRs (rowsN (.loop r)) = [.tuple (encR r)] := by rw [encRs_map]; rfl
    rw [e] at h
    unfold encN
    repeat walk_at "ds"
    rw [trim_len rfl]
    exact h
  | pl w =>
    unfold encN
    have h : Q (.sh (.tuple [])) s := h
    cases w <;> unfold encW <;>
    · repeat walk_at "ds"
      rw [trim_len rfl]
      exact h
  | _ =>
    unfold encN
    have h : Q (.sh (.tuple [])) s := h
    repeat walk_at "ds"
    rw [trim_len rfl]
    exact h
end
end Ds.K60
namespace Ds.K60
open PySem PySem.Spec PyProof.Rows L2 Dn TL
section
variable {s : St} {Q : Cl → St → Prop} {R : Rw} {q : List Nat} {P : Pg} {nm : Str} (HR : rowOf P nm = some R)
include HR
theorem along_ {r : Rw} {k : Nat} (h : rowR R q = some (r, k)) (hl : q.length ≤ 60)
    (hq : ∀ (xs : List D) (s' : St), Fz s s' → Q (.sh (.list (xs ++ [.tuple [.tuple (encR r), .int (k : Int)]]))) s') : FRun f_words_along [.sh (wholeP P), .sh (plR nm q)] s Q := by
  obtain ⟨c, hc⟩ := rowR_odd h
  obtain ⟨u0, i0, e0, hu0⟩ : ∃ u0 i0, q = u0 ++ [i0] ∧ u0.length = 2 * c := by
    refine ⟨q.dropLast, q.getLast (by intro e; subst e; simp at hc), (List.dropLast_concat_getLast _).symm, by rw [List.length_dropLast, hc]; rfl⟩
  have hcl : q.reverse.length = 2 * c + 1 := by rw [List.length_reverse]; exact hc
  refine frun_fn rfl ?_
  unfold m_words_along
  repeat walk_at "ds"
  refine ⟨_, at0, ?_⟩
  repeat walk_at "ds"
  refine row_of_ HR ?_
  repeat walk_at "ds"
  refine ⟨_, ix_pl (a := 0) (v := i0) (by rw [e0]; simp) rfl, ?_⟩
  iterate 17 walk_at "ds"
  rw [pl_length, hcl]
  refine ⟨_, rng_step (by omega), ?_⟩
  refine run_forL _ (fun t e s' => ∃ (u v : List Nat) (i : Nat) (row : Rw) (z4 : Cl) (xs : List D), q = u ++ i :: v ∧ (i :: v).length = 2 * t + 1 ∧ rowR R (i :: v) = some (row, i) ∧ s'[s.length]? = some (.lst ((xs ++ [PyData.tuple [.tuple (encR row), .int (i : Int)]]).map Cl.sh)) ∧ xs.length = t ∧ Fz s s' ∧ e = [.sh (wholeP P), .sh (plR nm q), .sh (.tuple (encR row)), .lo s.length, z4]) ⟨u0, [], i0, R, _, [], e0, rfl, rfl, app_new, rfl, Fz.app, rfl⟩ (fun t d e s' hd hI => ?_) fun e s' hI => ?_
  · obtain ⟨u, v, i, row, z4, xs, e1, e2, C1, hx, hxl, F1, rfl⟩ := hI
    obtain ⟨rfl, ht⟩ := stepD_at hd
    have hul : u.length = 2 * (c - t) := by
      have := congrArg List.length e1
      rw [List.length_append, e2, hc] at this
      omega
    obtain ⟨u', j2, j1, eu⟩ : ∃ u' j2 j1, u = u' ++ [j2, j1] := by
      have n1 : u ≠ [] := fun e => by subst e; simp at hul; omega
      have n2 : u.dropLast ≠ [] := fun e => by
        have := congrArg List.length e
        rw [List.length_dropLast] at this
        simp at this
        omega
      refine ⟨u.dropLast.dropLast, u.dropLast.getLast n2, u.getLast n1, ?_⟩
      have a := List.dropLast_concat_getLast n1
      have b := List.dropLast_concat_getLast n2
      calc u = u.dropLast ++ [u.getLast n1] := a.symm
        _ = (u.dropLast.dropLast ++ [u.dropLast.getLast n2]) ++ [u.getLast n1] := by rw [b]
        _ = _ := by simp
    have e3 : q = u' ++ j2 :: j1 :: i :: v := by rw [e1, eu]; simp
    obtain ⟨⟨row2, k2⟩, h2⟩ := rowR_tail (R := R) (v := j2 :: j1 :: i :: v) (by simp) (c - t - 1) (u := u') (by rw [eu] at hul; simp at hul; omega) (by rw [← e3]; exact h)
    obtain ⟨rfl, w, hw, hr⟩ := rowR_two h2
    obtain ⟨row', i', hw1, hw2, _⟩ := wdR_some hw
    rw [C1] at hw1
    cases hw1
    obtain ⟨g0, g1, g2⟩ := rev_at (u := u') (v := v) (i := i) (j := j1) (k := k2) e2
    rw [← e3] at g0 g1 g2
    refine ⟨_, rfl, ?_⟩
    repeat walk_at "ds"
    refine ⟨_, ix_pl g0 (by omega), ?_⟩
    refine ⟨_, ix_at (encR_get hw2), ?_⟩
    repeat walk_at "ds"
    refine rows_in_ ?_
    repeat walk_at "ds"
    refine ⟨_, ix_pl g1 (by omega), ?_⟩
    refine ⟨_, ix_at (encRs_get hr), ?_⟩
    repeat walk_at "ds"
    refine ⟨_, hx, ?_⟩
    repeat walk_at "ds"
    refine ⟨_, ix_pl g2 (by omega), ?_⟩
    repeat walk_at "ds"
    refine ⟨_, hx, by simp; exact Nat.lt_of_le_of_lt (show xs.length + 1 ≤ 100 by omega) (by decide), ?_⟩
    repeat walk_at "ds"
    refine ⟨u', j1 :: i :: v, k2, row2, _, xs ++ [.tuple [.tuple (encR row), .int (i : Int)]], e3, by simp at e2 ⊢; omega, h2, ?_, by simp [hxl], F1.put (Nat.le_refl _), rfl⟩
    rw [set_same (lt_of_at hx)]
    simp
  · obtain ⟨u, v, i, row, z4, xs, e1, e2, C1, hx, hxl, F1, rfl⟩ := hI
    rw [stepD_length] at e2
    have hu : u = [] := by
      have := congrArg List.length e1
      rw [List.length_append, e2, hc] at this
      exact List.length_eq_zero_iff.mp (by omega)
    subst hu
    have e1 : q = i :: v := e1
    rw [e1, C1] at h
    cases h
    repeat walk_at "ds"
    refine ⟨_, _, hx, shL_map _, ?_⟩
    repeat walk_at "ds"
    exact hq xs _ (F1.put (Nat.le_refl _)).trim
theorem word_at_ (h : Vp R q) (hl : q.length ≤ 60) (hq : ∀ s', Fz s s' → Q (.sh (wdD R q)) s') : FRun f_word_at [.sh (wholeP P), .sh (plR nm q)] s Q := by
  obtain ⟨r, k, h1, h2⟩ := h
  refine frun_fn rfl ?_
  unfold m_word_at
  repeat walk_at "ds"
  refine along_ HR h1 hl fun xs s1 F1 => ?_
  repeat walk_at "ds"
  refine ⟨_, last_ix, ?_⟩
  repeat walk_at "ds"
  have ew : wdR R q = r[k]? := by unfold wdR; rw [h1]; rfl
  refine two_dec (fun h => ?_) (fun h => ?_)
  · rw [encR_len] at h
    have e : wdD R q = .none := by unfold wdD; rw [ew, List.getElem?_eq_none (by omega)]
    rw [e] at hq
    repeat walk_at "ds"
    exact hq _ F1.trim
  · rw [encR_len] at h
    have hlt : k < r.length := by omega
    have e : wdD R q = encN r[k] := by unfold wdD; rw [ew, List.getElem?_eq_getElem hlt]
    rw [e] at hq
    repeat walk_at "ds"
    refine ⟨_, ix_at (encR_get (List.getElem?_eq_getElem hlt)), ?_⟩
    repeat walk_at "ds"
    exact hq _ F1.trim
end
end Ds.K60
namespace Ds.K60
open PySem PySem.Spec PyProof.Rows L2 Dn TL
theorem rng_odd {c : Nat} (h : c ≤ 100) : bRng3 (.int 1) (.int (((2 * c + 1 + 1 : Nat) : Int) - 1)) (.int 2) = some (stepD 1 2 c) := by
  have e : Builtin.Range.rangeSize 1 (((2 * c + 1 + 1 : Nat) : Int) - 1) 2 = c := by
    unfold Builtin.Range.rangeSize
    rw [if_pos (by decide)]
    by_cases h0 : c = 0
    · subst h0
      rfl
    · rw [if_pos (by omega)]
      omega
  have ok : okStep 1 (((2 * c + 1 + 1 : Nat) : Int) - 1) 2 = true := by
    unfold okStep Builtin.Range.small
    rw [e]
    unfold Builtin.Range.rangeFitsLong
    rw [if_pos (by decide)]
    simp
    omega
  show (if okStep 1 (((2 * c + 1 + 1 : Nat) : Int) - 1) 2 = true then some (stepD 1 ((2 : Int)) (Builtin.Range.rangeSize 1 (((2 * c + 1 + 1 : Nat) : Int) - 1) 2).toNat) else none) = _
  rw [if_pos ok, e]
  rfl
/-- the names of the defs are unlike, none is the text without signs -/
structure Nms (P : Pg) : Prop where
  nd : (P.ds.map Df.nm).Nodup
  ne : ∀ d ∈ P.ds, d.nm ≠ ""
theorem find_one : ∀ {L : List Df} {d : Df}, (L.map Df.nm).Nodup → d ∈ L → L.find? (fun x => decide (x.nm = d.nm)) = some d
  | c :: L, d, hn, hd => by
    rw [List.map_cons, List.nodup_cons] at hn
    rcases List.mem_cons.mp hd with rfl | h
    · rw [List.find?_cons, decide_eq_true rfl]
    · rw [List.find?_cons, decide_eq_false fun z => hn.1 (List.mem_map.mpr ⟨d, h, z.symm⟩)]
      exact find_one hn.2 h
theorem row_one {P : Pg} {nm : Str} {R X : Rw} (NP : Nms P) (HR : rowOf P nm = some R) (h : (∃ d ∈ P.ds, d.nm = nm ∧ X = d.row) ∨ ((∀ d ∈ P.ds, d.nm ≠ nm) ∧ X = P.main)) : X = R := by
  unfold rowOf at HR
  rcases h with ⟨d, h1, rfl, rfl⟩ | ⟨h1, rfl⟩
  · rw [if_neg (NP.ne d h1)] at HR
    unfold defOf at HR
    rw [find_one NP.nd h1] at HR
    exact (Option.some.inj HR)
  · by_cases e : nm = ""
    · rw [if_pos e] at HR
      exact Option.some.inj HR
    · rw [if_neg e] at HR
      obtain ⟨d, hd, _⟩ := Option.map_eq_some_iff.mp HR
      have k := List.find?_some (p := fun x : Df => decide (x.nm = nm)) hd
      exact absurd (of_decide_eq_true k) (h1 d (List.mem_of_find?_eq_some hd))
/-- a word with rows -/
theorem wd_rows {w : Nd} {j : Nat} {r : Rw} (h : (rowsN w)[j]? = some r) : (∃ rs, w = .choose rs ∧ rs[j]? = some r) ∨ (w = .loop r ∧ j = 0) := by
  cases w with
  | choose rs => exact .inl ⟨rs, rfl, h⟩
  | loop r' =>
    have h : [r'][j]? = some r := h
    cases j with
    | zero => cases h; exact .inr ⟨rfl, rfl⟩
    | succ j => cases h
  | _ => cases h
end Ds.K60
namespace Ds.K60
open PySem PySem.Spec PyProof.Rows L2 Dn TL
section
variable {s : St} {Q : Cl → St → Prop} {R : Rw} {q : List Nat} {P : Pg} {nm : Str} (HR : rowOf P nm = some R)
include HR
theorem law_row_ {r : Rw} (NP : Nms P) {k : Nat} (h : rowR R q = some (r, k)) (hl : q.length ≤ 60) (hq : Q (.sh (.tuple (encR r))) s) : FRun f__law_row [.sh (wholeP P), .sh (plR nm q)] s Q := by
  obtain ⟨c, hc⟩ := rowR_odd h
  obtain ⟨u0, i0, e0, hu0⟩ : ∃ u0 i0, q = u0 ++ [i0] ∧ u0.length = 2 * c := by
    refine ⟨q.dropLast, q.getLast (by intro e; subst e; simp at hc), (List.dropLast_concat_getLast _).symm, by rw [List.length_dropLast, hc]; rfl⟩
  have hcl : q.reverse.length = 2 * c + 1 := by rw [List.length_reverse]; exact hc
  refine frun_fn rfl ?_
  unfold m__law_row wholeP
  repeat walk_at "ds"
  refine run_forR _ (fun rem e s' => s' = s ∧ ∃ (B C : List Df) (X : Rw) (z3 : Cl), P.ds = B ++ C ∧ rem = C.map encD ∧ ((∃ d ∈ B, d.nm = nm ∧ X = d.row) ∨ ((∀ d ∈ B, d.nm ≠ nm) ∧ X = P.main)) ∧ e = [.sh (.tuple [.tuple (P.ds.map encD), .tuple (encR P.main)]), .sh (plR nm q), .sh (.tuple (encR X)), z3, .no, .no]) ⟨rfl, [], P.ds, P.main, _, rfl, rfl, .inr ⟨(fun _ h => nomatch h), rfl⟩, rfl⟩ (fun x rem e s' hI => ?_) fun e s' hI => ?_
  · obtain ⟨rfl, B, C, X, z3, hB, hr, hX, rfl⟩ := hI
    cases C with
    | nil => cases hr
    | cons c C =>
      rw [List.map_cons] at hr
      injection hr with hr1 hr2
      subst hr1
      subst hr2
      refine ⟨_, rfl, ?_⟩
      unfold encD
      repeat walk_at "ds"
      refine ⟨_, at0, ?_⟩
      repeat walk_at "ds"
      refine two_dec (fun e => ?_) (fun e => ?_)
      · repeat walk_at "ds"
        exact ⟨rfl, B ++ [c], C, c.row, _, by rw [hB]; simp, rfl, .inl ⟨c, by simp, e, rfl⟩, rfl⟩
      · repeat walk_at "ds"
        refine ⟨rfl, B ++ [c], C, X, _, by rw [hB]; simp, rfl, ?_, rfl⟩
        rcases hX with ⟨d, h1, h2, h3⟩ | ⟨h1, h2⟩
        · exact .inl ⟨d, by simp [h1], h2, h3⟩
        · refine .inr ⟨fun d hd => ?_, h2⟩
          rcases List.mem_append.mp hd with k | k
          · exact h1 d k
          · simp at k; subst k; exact e
  obtain ⟨hs, B, C, X, z3, hB, hr, hX, rfl⟩ := hI
  rw [hs]
  clear hs s'
  have hX2 : X = R := by
    have hC : C = [] := by cases C with
      | nil => rfl
      | cons _ _ => cases hr
    subst hC
    rw [List.append_nil] at hB
    rw [← hB] at hX
    exact row_one NP HR hX
  subst hX2
  repeat walk_at "ds"
  rw [pl_length, hcl]
  refine ⟨_, rng_odd (by omega), ?_⟩
  refine run_forL _ (fun t e s' => ∃ (u v : List Nat) (i : Nat) (row : Rw) (z4 z5 : Cl), q = u ++ i :: v ∧ (i :: v).length = 2 * t + 1 ∧ rowR X (i :: v) = some (row, i) ∧ s' = s ∧ e = [.sh (wholeP P), .sh (plR nm q), .sh (.tuple (encR row)), z3, z4, z5]) ⟨u0, [], i0, X, _, _, e0, rfl, rfl, rfl, rfl⟩ (fun t d e s' hd hI => ?_) fun e s' hI => ?_
  · obtain ⟨u, v, i, row, z4, z5, e1, e2, C1, rfl, rfl⟩ := hI
    obtain ⟨rfl, ht⟩ := stepD_at hd
    have hul : u.length = 2 * (c - t) := by
      have := congrArg List.length e1
      rw [List.length_append, e2, hc] at this
      omega
    obtain ⟨u', j2, j1, eu⟩ : ∃ u' j2 j1, u = u' ++ [j2, j1] := by
      have n1 : u ≠ [] := fun e => by subst e; simp at hul; omega
      have n2 : u.dropLast ≠ [] := fun e => by
        have := congrArg List.length e
        rw [List.length_dropLast] at this
        simp at this
        omega
      refine ⟨u.dropLast.dropLast, u.dropLast.getLast n2, u.getLast n1, ?_⟩
      have a := List.dropLast_concat_getLast n1
      have b := List.dropLast_concat_getLast n2
      calc u = u.dropLast ++ [u.getLast n1] := a.symm
        _ = (u.dropLast.dropLast ++ [u.dropLast.getLast n2]) ++ [u.getLast n1] := by rw [b]
        _ = _ := by simp
    have e3 : q = u' ++ j2 :: j1 :: i :: v := by rw [e1, eu]; simp
    obtain ⟨⟨row2, k2⟩, h2⟩ := rowR_tail (R := X) (v := j2 :: j1 :: i :: v) (by simp) (c - t - 1) (u := u') (by rw [eu] at hul; simp at hul; omega) (by rw [← e3]; exact h)
    obtain ⟨rfl, w, hw, hr⟩ := rowR_two h2
    obtain ⟨row', i', hw1, hw2, _⟩ := wdR_some hw
    rw [C1] at hw1
    cases hw1
    obtain ⟨g0, g1, g2⟩ := rev_at (u := u') (v := v) (i := i) (j := j1) (k := k2) e2
    rw [← e3] at g0 g1 g2
    refine ⟨_, rfl, ?_⟩
    repeat walk_at "ds"
    refine ⟨_, ix_pl g0 (by omega), ?_⟩
    refine ⟨_, ix_at (encR_get hw2), ?_⟩
    rcases wd_rows hr with ⟨rs, rfl, hrs⟩ | ⟨rfl, rfl⟩
    · have ew : encN (.choose rs) = .tuple [.str "choose", .tuple (encRs rs)] := by unfold encN; rfl
      rw [ew]
      repeat walk_at "ds"
      refine ⟨_, ix_pl g1 (by omega), ?_⟩
      refine ⟨_, ix_at (encRs_get hrs), ?_⟩
      repeat walk_at "ds"
      exact ⟨u', j1 :: i :: v, k2, row2, _, _, e3, by simp at e2 ⊢; omega, h2, rfl, rfl⟩
    · have ew : encN (.loop row2) = .tuple [.str "loop", .tuple (encR row2)] := by unfold encN; rfl
      rw [ew]
      repeat walk_at "ds"
      exact ⟨u', 0 :: i :: v, k2, row2, _, _, e3, by simp at e2 ⊢; omega, h2, rfl, rfl⟩
  · obtain ⟨u, v, i, row, z4, z5, e1, e2, C1, rfl, rfl⟩ := hI
    rw [stepD_length] at e2
    have hu : u = [] := by
      have := congrArg List.length e1
      rw [List.length_append, e2, hc] at this
      exact List.length_eq_zero_iff.mp (by omega)
    subst hu
    have e1 : q = i :: v := e1
    rw [e1, C1] at h
    cases h
    repeat walk_at "ds"
    rw [trim_len rfl]
    exact hq
end
end Ds.K60
namespace Ds.K60
open PySem PySem.Spec PyProof.Rows L2 Dn TL
/-- a deck at b -/
def Dq (b : Nat) (s : St) : Prop := ∃ (a d : Int) (r : List Int), s[b]? = some (.lst (((a :: d :: r).map PyData.int).map Cl.sh)) ∧ r.length ≤ 63
theorem Dq.lt {b : Nat} {s : St} (h : Dq b s) : b < s.length := by
  obtain ⟨_, _, _, h, _⟩ := h
  exact lt_of_at h
theorem Dq.of {b : Nat} {s s' : St} (h : Dq b s) (k : s'[b]? = s[b]?) : Dq b s' := by
  obtain ⟨a, d, r, h, q⟩ := h
  exact ⟨a, d, r, k.trans h, q⟩
theorem Dq.trim {b n : Nat} {k : Cl} {s : St} (h : Dq b s) (hb : b < n) : Dq b (trim n k s) := h.of (trim_get hb)
theorem Dq.app {b : Nat} {o : Ob} {s : St} (h : Dq b s) : Dq b (s ++ [o]) := h.of (app_old h.lt)
theorem Dq.set {b l : Nat} {o : Ob} {s : St} (h : Dq b s) (hl : b ≠ l) : Dq b (s.set l o) := h.of (set_other hl)
theorem Dq.fz {b : Nat} {s s' : St} (h : Dq b s) (f : Fz s s') : Dq b s' := h.of (f.2 _ h.lt)
theorem int_lst {xs : List Int} {i : Int} {n : Int} {j : Nat} (h : xs[j]? = some n) (hi : i = j) : atI ((xs.map PyData.int).map Cl.sh) i = some (.sh (.int n)) := by
  have hl := (List.getElem?_eq_some_iff.mp h).1
  unfold atI ixN
  rw [List.length_map, List.length_map, if_pos (by omega), if_pos (by omega), hi]
  simp [h]
theorem nl_join {ss : List Str} (h : ∀ s ∈ ss, Lt s) (hl : ss.length ≤ 6) : Ok 6 (Txt.join "" ss) ∧ 46 ∉ tl (Txt.join "" ss) := by
  obtain ⟨i1, i2⟩ := lt_flat ss h
  have e : tl (Txt.join "" ss) = ss.flatMap tl := Dn.tl_join ss
  refine ⟨⟨?_, fun c hc => ?_⟩, fun z => ?_⟩
  · rw [len_tl, e, i1]
    exact hl
  · rw [e] at hc
    have := i2 c hc
    omega
  · rw [e] at z
    have := i2 46 z
    omega
theorem Lo.join {ss : List Str} {z : Str} (h : ∀ s ∈ ss, Lt s) (hl : ss.length ≤ 6) (hz : z = "" ∨ z = "z") : Lo (Txt.join "" ss ++ "q" ++ z) := by
  obtain ⟨o, n⟩ := nl_join h hl
  have e1 : Ok 1 ("q" : Str) := Ok.lit _ _ (by decide)
  have e2 : Ok 1 z := by rcases hz with rfl | rfl <;> exact Ok.lit _ _ (by decide)
  refine ⟨(o.append e1).append e2, fun k => ?_⟩
  rw [tl_append, tl_append] at k
  rcases List.mem_append.mp k with k | k
  · rcases List.mem_append.mp k with k | k
    · exact n k
    · exact absurd k (by decide)
  · rcases hz with rfl | rfl <;> exact absurd k (by decide)
theorem Lo.lit (x : Str) (h : (decide (x.length ≤ 8) && (tl x).all (· < 128)) = true) (k : 46 ∉ tl x) : Lo x := ⟨Ok.lit _ _ h, k⟩
end Ds.K60
namespace Ds.K60
open PySem PySem.Spec PyProof.Rows L2 Dn TL
section
variable {b : Nat} {s : St} {Q : Cl → St → Prop}
def tailM : M Fl := (mSeq (mSet 3 (mSh (mBin dMod (mBin dMul (mBin dAdd (mBin dMod (mVar 2) (mC (PyData.int 2147483629))) (mBin dMul (mC (PyData.int 7919)) (mD (mIxC (mLo (mLV 0)) (mC (PyData.int 0)))))) (mC (PyData.int 48271))) (mC (PyData.int 2147483647)))))
  (mSeq (mSet 3 (mSh (mBin dMod (mBin dAdd (mBin dAdd (mBin dMul (mVar 3) (mVar 3)) (mBin dMul (mC (PyData.int 69621)) (mVar 3))) (mD (mIxC (mLo (mLV 0)) (mC (PyData.int 0))))) (mC (PyData.int 2147483587)))))
  (mRet (mSh (mBin dMod (mBin dDiv (mVar 3) (mC (PyData.int 64))) (mVar 1))))))
theorem tail_ {a d n v : Int} {r : List Int} {z3 : Cl} {R : Fl → Ev → St → Prop} (hx : s[b]? = some (.lst (((a :: d :: r).map PyData.int).map Cl.sh))) (hn : 0 < n) (q : ∀ (w : Int) (e : Ev), R (.rt (.sh (.int (w % n)))) e s) : Run tailM [.lo b, .sh (.int n), .sh (.int v), z3] s R := by
  unfold tailM
  repeat walk_at "ds"
  refine ⟨_, ixC_lo hx (int_lst (j := 0) rfl rfl), ?_⟩
  repeat walk_at "ds"
  refine ⟨_, ixC_lo hx (int_lst (j := 0) rfl rfl), ?_⟩
  repeat walk_at "ds"
  exact q _ _
theorem draw {n : Int} (S : Dq b s) (hn : 0 < n ∧ n < 1073741824) (h : ∀ (got : Int) (s' : St), 0 ≤ got → got < n → Dq b s' → Fr b s s' → Q (.sh (.int got)) s') : FRun f__law_draw [.lo b, .sh (.int n)] s Q := by
  have hlt := S.lt
  obtain ⟨a, d, r, hx, hr⟩ := S
  refine frun_fn rfl ?_
  unfold m__law_draw
  show RunX _ (mSeq _ (mSeq _ (mSeq _ tailM))) _ _ _
  repeat walk_at "ds"
  refine ⟨_, ixC_lo hx (int_lst (j := 0) rfl rfl), ?_⟩
  repeat walk_at "ds"
  refine ⟨_, _, _, hx, rfl, ixN_in (by decide) (by simp; omega), ?_⟩
  have e1 : (((a :: d :: r).map PyData.int).map Cl.sh).set (0 : Int).toNat (.sh (.int (a + 1))) = (((a + 1) :: d :: r).map PyData.int).map Cl.sh := rfl
  rw [e1]
  have hx1 : (s.set b (.lst ((((a + 1) :: d :: r).map PyData.int).map Cl.sh)))[b]? = some (.lst ((((a + 1) :: d :: r).map PyData.int).map Cl.sh)) := set_same hlt
  have l1 : (s.set b (.lst ((((a + 1) :: d :: r).map PyData.int).map Cl.sh))).length = s.length := by simp
  have F1 : Fr b s (s.set b (.lst ((((a + 1) :: d :: r).map PyData.int).map Cl.sh))) := Fr.set
  generalize s.set b (.lst ((((a + 1) :: d :: r).map PyData.int).map Cl.sh)) = s1 at hx1 l1 F1 ⊢
  repeat walk_at "ds"
  refine ⟨_, ixC_lo hx1 (int_lst (j := 1) rfl rfl), ?_⟩
  repeat walk_at "ds"
  refine ⟨_, ixC_lo hx1 (int_lst (j := 0) rfl rfl), ?_⟩
  repeat walk_at "ds"
  refine ⟨_, by unfold snaps; rw [snap_list hx1]; rfl, ?_⟩
  repeat walk_at "ds"
  refine two_dec (fun h6 => ?_) (fun h6 => ?_)
  · have h6 : (2 : Int) < ((((a + 1) :: d :: r).map PyData.int).length : Int) := h6
    rw [List.length_map, List.length_cons, List.length_cons] at h6
    rcases List.eq_nil_or_concat r with rfl | ⟨r', l, rfl⟩
    · simp at h6
    rw [List.concat_eq_append] at hx1 hr
    have hsn : ((((a + 1) :: d :: (r' ++ [l])).map PyData.int).map Cl.sh) = ((((a + 1) :: d :: r').map PyData.int).map Cl.sh) ++ [.sh (.int l)] := by simp
    rw [hsn] at hx1
    have hlen : r'.length ≤ 62 := by simp at hr; omega
    repeat walk_at "ds"
    refine ⟨_, .sh (.int l), hx1, ?_, ?_⟩
    · rw [List.length_append, List.length_singleton, Nat.add_sub_cancel, List.getElem?_append_right (Nat.le_refl _), Nat.sub_self]
      rfl
    rw [List.dropLast_concat]
    have hx2 : (s1.set b (.lst ((((a + 1) :: d :: r').map PyData.int).map Cl.sh)))[b]? = some (.lst ((((a + 1) :: d :: r').map PyData.int).map Cl.sh)) := set_same (by omega)
    have l2 : (s1.set b (.lst ((((a + 1) :: d :: r').map PyData.int).map Cl.sh))).length = s.length := by simp; omega
    have F2 : Fr b s (s1.set b (.lst ((((a + 1) :: d :: r').map PyData.int).map Cl.sh))) := F1.trans Fr.set
    generalize s1.set b (.lst ((((a + 1) :: d :: r').map PyData.int).map Cl.sh)) = s2 at hx2 l2 F2 ⊢
    repeat walk_at "ds"
    refine two_dec (fun h7 => ?_) (fun h7 => ?_)
    · repeat walk_at "ds"
      refine ⟨_, hx2, ?_⟩
      repeat walk_at "ds"
      refine ⟨_, hx2, Nat.lt_of_le_of_lt (show _ ≤ 100 by simp; omega) (by decide), ?_⟩
      have e3 : ((((a + 1) :: d :: r').map PyData.int).map Cl.sh) ++ [.sh (.int (l / n))] = (((a + 1) :: d :: (r' ++ [l / n])).map PyData.int).map Cl.sh := by simp
      rw [e3]
      repeat walk_at "ds"
      rw [trim_len (by simp; omega)]
      exact h _ _ (Int.emod_nonneg _ (by omega)) (Int.emod_lt_of_pos _ hn.1) ⟨_, _, _, set_same (by omega), by simp; omega⟩ (F2.trans Fr.set)
    · repeat walk_at "ds"
      refine RunX.lift (tail_ hx2 hn.1 fun w e => ?_)
      repeat walk_at "ds"
      rw [trim_len l2]
      exact h _ _ (Int.emod_nonneg _ (by omega)) (Int.emod_lt_of_pos _ hn.1) ⟨_, _, _, hx2, by omega⟩ F2
  · repeat walk_at "ds"
    refine RunX.lift (tail_ hx1 hn.1 fun w e => ?_)
    repeat walk_at "ds"
    rw [trim_len l1]
    exact h _ _ (Int.emod_nonneg _ (by omega)) (Int.emod_lt_of_pos _ hn.1) ⟨_, _, _, hx1, hr⟩ F1
end
end Ds.K60
namespace Ds.K60
open PySem PySem.Spec PyProof.Rows L2 Dn TL
theorem enum_at {ds : List D} {i : Nat} {d : D} (h : (enumD ds)[i]? = some d) : ∃ x, ds[i]? = some x ∧ d = .tuple [.int i, x] := by
  rw [enumD_at] at h
  obtain ⟨x, h1, h2⟩ := Option.map_eq_some_iff.mp h
  exact ⟨x, h1, h2.symm⟩
theorem cut_lo {xs : List D} {k : Nat} : Dn.cutD xs none (some (k : Int)) = xs.take k := by
  unfold Dn.cutD HT.sIx
  dsimp only
  rw [if_neg (by omega), Int.toNat_natCast, Nat.sub_zero, List.drop_zero]
  by_cases h : k ≤ xs.length
  · rw [Nat.min_eq_left h]
  · rw [Nat.min_eq_right (by omega), List.take_length, List.take_of_length_le (by omega)]
theorem cut_hi {xs : List D} {k : Nat} : Dn.cutD xs (some (k : Int)) none = xs.drop k := by
  unfold Dn.cutD HT.sIx
  dsimp only
  rw [if_neg (by omega), Int.toNat_natCast]
  by_cases h : k ≤ xs.length
  · rw [Nat.min_eq_left h]
    exact List.take_of_length_le (by rw [List.length_drop]; exact Nat.le_refl _)
  · rw [Nat.min_eq_right (by omega), Nat.sub_self, List.take_zero, List.drop_of_length_le (by omega)]
theorem cut_mid {xs : List D} {j k : Nat} (h : j ≤ k) (hk : k ≤ xs.length) : Dn.cutD xs (some (j : Int)) (some (k : Int)) = (xs.drop j).take (k - j) := by
  unfold Dn.cutD HT.sIx
  dsimp only
  rw [if_neg (by omega), if_neg (by omega), Int.toNat_natCast, Int.toNat_natCast, Nat.min_eq_left hk, Nat.min_eq_left (by omega)]
def words8 : List D := [.str "same", .str "way", .str "left", .str "far", .str "twice", .str "unread", .str "ended", .str "on"]
def Lo7 (x : Str) : Prop := Lo x ∧ x.length ≤ 7
theorem Lo7.join {ss : List Str} {z : Str} (h : ∀ s ∈ ss, Lt s) (hl : ss.length ≤ 5) (hz : z = "" ∨ z = "z") : Lo7 (Txt.join "" ss ++ "q" ++ z) := by
  refine ⟨Lo.join h (by omega) hz, ?_⟩
  obtain ⟨i1, _⟩ := lt_flat ss h
  have e : tl (Txt.join "" ss) = ss.flatMap tl := Dn.tl_join ss
  have h1 : (Txt.join "" ss : Str).length ≤ 5 := by rw [len_tl, e, i1]; exact hl
  have h2 : ("q" : Str).length = 1 := rfl
  have h3 : z.length ≤ 1 := by rcases hz with rfl | rfl <;> decide
  rw [len_append, len_append]
  omega
def one (c : Nat) : Str := ⟨#[c]⟩
theorem abc_at : ∀ (k : Nat), k < 26 → dIx (.str abc) (.int (k : Int)) = some (.str (one (97 + k)))
  | 0, _ => rfl
  | 1, _ => rfl
  | 2, _ => rfl
  | 3, _ => rfl
  | 4, _ => rfl
  | 5, _ => rfl
  | 6, _ => rfl
  | 7, _ => rfl
  | 8, _ => rfl
  | 9, _ => rfl
  | 10, _ => rfl
  | 11, _ => rfl
  | 12, _ => rfl
  | 13, _ => rfl
  | 14, _ => rfl
  | 15, _ => rfl
  | 16, _ => rfl
  | 17, _ => rfl
  | 18, _ => rfl
  | 19, _ => rfl
  | 20, _ => rfl
  | 21, _ => rfl
  | 22, _ => rfl
  | 23, _ => rfl
  | 24, _ => rfl
  | 25, _ => rfl
  | k + 26, h => absurd h (by omega)
theorem ix_abc2 {i : Int} {Q : D → Prop} (h0 : 0 ≤ i) (h1 : i < 26) (h : Q (.str (one (97 + i.toNat)))) : ∃ c, dIx (.str abc) (.int i) = some c ∧ Q c := by
  obtain ⟨k, rfl⟩ := Int.eq_ofNat_of_zero_le h0
  exact ⟨_, abc_at k (by omega), h⟩
def Cds (cs : List Nat) : Prop := ∀ c ∈ cs, 97 ≤ c ∧ c ≤ 122
theorem cds_lt {cs : List Nat} (h : Cds cs) : ∀ s ∈ cs.map one, Lt s := fun s hs => by
  obtain ⟨c, hc, rfl⟩ := List.mem_map.mp hs
  exact ⟨c, rfl, h c hc⟩
theorem cds_set {cs : List Nat} {i c : Nat} (h : Cds cs) (hc : 97 ≤ c ∧ c ≤ 122) : Cds (cs.set i c) := fun d hd => (List.mem_or_eq_of_mem_set hd).elim (h d) fun e => e ▸ hc
theorem tl_ones : ∀ (cs : List Nat), (cs.map one).flatMap tl = cs
  | [] => rfl
  | c :: cs => by
    rw [List.map_cons, List.flatMap_cons, tl_ones]
    rfl
theorem tl_word {cs : List Nat} {z : Str} : tl (Txt.join "" (cs.map one) ++ "q" ++ z) = cs ++ 113 :: tl z := by
  rw [tl_append, tl_append, show tl (Txt.join "" (cs.map one)) = (cs.map one).flatMap tl from Dn.tl_join _, tl_ones, List.append_assoc]
  rfl
/-- the last sign is no k -/
def NK (x : Str) : Prop := (tl x).getLast? ≠ some 107
structure Nam (x : Str) : Prop where
  lo : Lo7 x
  ne : x ≠ ""
  nk : NK x
theorem nam_word {cs : List Nat} {z : Str} (h : Cds cs) (hl : cs.length ≤ 5) (hz : z = "" ∨ z = "z") : Nam (Txt.join "" (cs.map one) ++ "q" ++ z) := by
  refine ⟨Lo7.join (cds_lt h) (by rw [List.length_map]; exact hl) hz, fun e => ?_, ?_⟩
  · have := congrArg tl e
    rw [tl_word] at this
    have h113 : 113 ∈ tl ("" : Str) := by rw [← this]; simp
    exact absurd h113 (by decide)
  · unfold NK
    rw [tl_word]
    rcases hz with rfl | rfl
    · rw [show tl ("" : Str) = [] from rfl, List.getLast?_append]
      show (some 113 : Option Nat) ≠ some 107
      decide
    · rw [show tl ("z" : Str) = [122] from rfl, List.getLast?_append]
      show (some 122 : Option Nat) ≠ some 107
      decide
theorem words8_nam : ∀ d ∈ words8, ∃ x, d = .str x ∧ Nam x ∧ 113 ∉ tl x := fun d hd => by
  unfold words8 at hd
  simp only [List.mem_cons, List.not_mem_nil, or_false] at hd
  rcases hd with rfl | rfl | rfl | rfl | rfl | rfl | rfl | rfl <;> exact ⟨_, rfl, ⟨⟨Lo.lit _ (by decide) (by decide), by decide⟩, by decide, by unfold NK; decide⟩, by decide⟩
/-- the k-th name -/
def IsNm (cs : List Nat) (p : Nat) (f : Int) (k : Nat) (x : Str) : Prop := ∃ zs, tl x = cs.set p (97 + ((f + (k : Int)) % 26).toNat) ++ 113 :: zs
theorem nm_inj {cs : List Nat} {p : Nat} {f : Int} {k l : Nat} {x : Str} (hp : p < cs.length) (hk : k < 17) (hl : l < 17) (h1 : IsNm cs p f k x) (h2 : IsNm cs p f l x) : k = l := by
  obtain ⟨z1, e1⟩ := h1
  obtain ⟨z2, e2⟩ := h2
  rw [e1] at e2
  have := congrArg (fun L => L[p]?) e2
  rw [List.getElem?_append_left (by rw [List.length_set]; exact hp), List.getElem?_append_left (by rw [List.length_set]; exact hp), List.getElem?_set_self hp, List.getElem?_set_self hp] at this
  injection this with this
  omega
theorem nm_nodup {cs : List Nat} {p : Nat} {f : Int} {xs : List Str} (hp : p < cs.length) (hl : xs.length = 17) (h : ∀ k x, xs[k]? = some x → IsNm cs p f k x) : xs.Nodup := by
  refine List.pairwise_iff_getElem.mpr fun i j hi hj hij e => ?_
  have h1 := h i _ (List.getElem?_eq_getElem hi)
  have h2 := h j _ (List.getElem?_eq_getElem hj)
  rw [← e] at h2
  have := nm_inj hp (by omega) (by omega) h1 h2
  omega
theorem nodup_set {xs : List Str} {i : Nat} {w : Str} (h : xs.Nodup) (hw : w ∉ xs) : (xs.set i w).Nodup := by
  refine List.pairwise_iff_getElem.mpr fun a b ha hb hab e => ?_
  rw [List.length_set] at ha hb
  rw [List.getElem_set, List.getElem_set] at e
  have hne := List.pairwise_iff_getElem.mp h a b ha hb hab
  split at e
  · split at e
    · omega
    · exact hw (e ▸ List.getElem_mem _)
  · split at e
    · exact hw (e ▸ List.getElem_mem _)
    · exact hne e
end Ds.K60
namespace Ds.K60
open PySem PySem.Spec PyProof.Rows L2 Dn TL
section
variable {b : Nat} {s : St} {Q : Cl → St → Prop}
theorem deck_ {ns : List Int} (hns : ns.length ≤ 63) (h : ∀ s', Dq s.length s' → Fz s s' → Q (.lo s.length) s') : FRun f__law_deck [.sh (.list (ns.map PyData.int))] s Q := by
  refine frun_fn rfl ?_
  unfold m__law_deck
  repeat walk_at "ds"
  have ec : Dn.cutD (ns.map PyData.int) none (some 63) = ns.map PyData.int := (cut_lo (k := 63)).trans (List.take_of_length_le (by rw [List.length_map]; exact hns))
  rw [ec]
  refine ⟨by unfold enumD; simp; exact line_of (by omega), ?_⟩
  refine run_compL _ (fun i ys e s' => s' = s ∧ (∃ is : List Int, ys = is.map PyData.int) ∧ e = [.sh (.list (ns.map PyData.int)), .sh (.list (ns.map PyData.int)), .no, .no]) ⟨rfl, ⟨[], rfl⟩, rfl⟩ (fun i d ys e s' hd hJ => ?_) fun ys e s' hJ => ?_
  · obtain ⟨rfl, ⟨is, rfl⟩, rfl⟩ := hJ
    obtain ⟨x, hx, rfl⟩ := enum_at hd
    obtain ⟨n, _, rfl⟩ := List.mem_map.mp (List.mem_of_getElem? hx)
    refine ⟨_, rfl, ?_⟩
    repeat walk_at "ds"
    exact ⟨rfl, ⟨is ++ [_], by simp; rfl⟩, rfl⟩
  · obtain ⟨rfl, ⟨is, rfl⟩, rfl⟩ := hJ
    refine ⟨_, shL_map _, ?_⟩
    repeat walk_at "ds"
    refine bx_sum ?_
    repeat walk_at "ds"
    refine ⟨_, _, rfl, rfl, line_of (by simp; omega), ?_⟩
    repeat walk_at "ds"
    rw [trim_lo (Nat.le_refl _)]
    rw [← List.map_reverse]
    exact h _ ⟨_, _, ns.reverse, app_new, by simpa using hns⟩ Fz.app
theorem some__ {few most : Int} (S : Dq b s) (hf : 0 ≤ few ∧ few < 1000) (h : ∀ (got : Int) (s' : St), (0 ≤ got ∧ got ≤ few) ∨ got = most → Dq b s' → Fr b s s' → Q (.sh (.int got)) s') : FRun f__law_some [.lo b, .sh (.int few), .sh (.int most)] s Q := by
  refine frun_fn rfl ?_
  unfold m__law_some
  repeat walk_at "ds"
  refine draw S (by omega) fun n1 s1 a1 b1 S1 F1 => ?_
  repeat walk_at "ds"
  refine draw S1 (by omega) fun n2 s2 a2 b2 S2 F2 => ?_
  repeat walk_at "ds"
  have F := F1.trans F2
  by_cases hn : n2 = 1
  · rw [decide_eq_true hn]
    refine ⟨.int most, rfl, ?_⟩
    repeat walk_at "ds"
    exact h _ _ (.inr rfl) (S2.trim S.lt) F.trim
  · rw [decide_eq_false hn]
    refine ⟨.int n1, rfl, ?_⟩
    repeat walk_at "ds"
    exact h _ _ (.inl (by omega)) (S2.trim S.lt) F.trim
theorem ixC_in {xs : List D} {i : Int} {s : St} (h0 : 0 ≤ i) (h1 : i < xs.length) : ∃ d, ixC s (.sh (.list xs)) (.int i) = some (.sh d) ∧ d ∈ xs := by
  obtain ⟨c, h, m⟩ := bx_ix_in (Q := fun d => d ∈ xs) h0 h1 fun d hd => hd
  exact ⟨c, by show (dIx (.list xs) (.int i)).map Cl.sh = _; rw [h]; rfl, m⟩
theorem one_of {xs : List D} (S : Dq b s) (hx : 0 < xs.length ∧ xs.length ≤ 100) (h : ∀ (d : D) (s' : St), d ∈ xs → Dq b s' → Fr b s s' → Q (.sh d) s') : FRun f__law_one_of [.lo b, .sh (.list xs)] s Q := by
  refine frun_fn rfl ?_
  unfold m__law_one_of
  repeat walk_at "ds"
  refine draw S (by omega) fun n1 s1 a1 b1 S1 F1 => ?_
  repeat walk_at "ds"
  obtain ⟨d, e1, hd⟩ := ixC_in (s := s1) a1 b1
  refine ⟨_, e1, ?_⟩
  repeat walk_at "ds"
  exact h d _ hd (S1.trim S.lt) F1.trim
theorem names_ (S : Dq b s) (h : ∀ (xs : List Str) (s' : St), (∀ x ∈ xs, Nam x) → xs.Nodup → xs.length = 17 → Dq b s' → Fr b s s' → Q (.sh (.list (xs.map PyData.str))) s') : FRun f__law_names [.lo b, .sh (.int 17)] s Q := by
  have hlt := S.lt
  refine frun_fn rfl ?_
  unfold m__law_names
  repeat walk_at "ds"
  refine draw S (by omega) fun n1 s1 a1 b1 S1 F1 => ?_
  repeat walk_at "ds"
  refine ⟨by rw [rngD_length]; exact line_of (by omega), ?_⟩
  refine run_compL _ (fun i ys e s' => ∃ (cs : List Nat), ys = (cs.map one).map PyData.str ∧ cs.length = i ∧ Cds cs ∧ Dq b s' ∧ Fr b s s' ∧ e = [.lo b, .sh (.int 17), .sh (.str abc), .no, .no, .no, .no, .no]) ?_ (fun i d ys e s' hd hJ => ?_) fun ys e s' hJ => ?_
  · exact ⟨[], rfl, rfl, (fun _ h => nomatch h), S1, F1, rfl⟩
  · obtain ⟨cs, rfl, e2, e3, S, F, rfl⟩ := hJ
    refine ⟨_, rfl, ?_⟩
    repeat walk_at "ds"
    refine draw S (by omega) fun n2 s2 a2 b2 S2 F2 => ?_
    repeat walk_at "ds"
    refine ix_abc2 a2 b2 ?_
    refine ⟨cs ++ [97 + n2.toNat], by simp, by simp [e2], fun u hu => ?_, S2, F.trans F2, rfl⟩
    rcases List.mem_append.mp hu with q | q
    · exact e3 u q
    · simp at q; subst q; omega
  · obtain ⟨cs, rfl, e2, e3, S2, F2, rfl⟩ := hJ
    rw [rngD_length] at e2
    repeat walk_at "ds"
    have h2lt := S2.lt
    have at3 : (s' ++ [Ob.lst (((cs.map one).map PyData.str).map Cl.sh)])[s'.length]? = some (.lst (((cs.map one).map PyData.str).map Cl.sh)) := app_new
    refine ⟨_, by unfold snaps; rw [snap_list at3]; rfl, ?_⟩
    repeat walk_at "ds"
    rw [List.length_map, List.length_map, e2]
    have S3 : Dq b (s' ++ [Ob.lst (((cs.map one).map PyData.str).map Cl.sh)]) := S2.app
    have F3 : Fr b s (s' ++ [Ob.lst (((cs.map one).map PyData.str).map Cl.sh)]) := F2.trans Fr.app
    refine draw S3 (by omega) fun n3 s3 a3 b3 S3 F3' => ?_
    repeat walk_at "ds"
    refine draw S3 (by omega) fun n4 s4 a4 b4 S4 F4 => ?_
    repeat walk_at "ds"
    have at5 := (F3'.trans F4).at_ at3 (by omega)
    have l5 : s'.length < s4.length := lt_of_at at5
    have F05 : Fr b s s4 := F3.trans (F3'.trans F4)
    have le2 := F2.1
    have hp : n3.toNat < cs.length := by omega
    refine run_forL _ (fun i e s7 => ∃ (ds : List Nat) (xs : List Str) (z : Cl), ds.length = cs.length ∧ Cds ds ∧ (∀ c, ds.set n3.toNat c = cs.set n3.toNat c) ∧ (∀ x ∈ xs, Nam x) ∧ (∀ k x, xs[k]? = some x → IsNm cs n3.toNat n4 k x) ∧ xs.length = i ∧ Dq b s7 ∧ Fr b s s7 ∧ s7[s'.length]? = some (.lst (((ds.map one).map PyData.str).map Cl.sh)) ∧ s7[s4.length]? = some (.lst ((xs.map PyData.str).map Cl.sh)) ∧ e = [.lo b, .sh (.int 17), .sh (.str abc), .lo s'.length, .sh (.int n3), .sh (.int n4), .lo s4.length, z]) ?_ (fun i d e s7 hd hI => ?_) fun e s7 hI => ?_
    · exact ⟨cs, [], _, rfl, e3, (fun _ => rfl), (fun _ h => nomatch h), (fun k x h => by simp at h), rfl, S4.app, F05.trans Fr.app, (app_old l5).trans at5, app_new, rfl⟩
    · obtain ⟨ds, xs, z, f1, f2, f0, f3, f5, f4, S7, F7, g1, g2, rfl⟩ := hI
      obtain ⟨rfl, hi⟩ := rngD_at hd
      refine ⟨_, rfl, ?_⟩
      repeat walk_at "ds"
      obtain ⟨c0, hc0, hcr⟩ : ∃ c0 : Nat, c0 = 97 + ((n4 + (0 + (i : Int))) % 26).toNat ∧ 97 ≤ c0 ∧ c0 ≤ 122 := ⟨_, rfl, by omega, by omega⟩
      refine ix_abc2 (Int.emod_nonneg _ (by omega)) (Int.emod_lt_of_pos _ (by omega)) ?_
      rw [← hc0]
      repeat walk_at "ds"
      refine ⟨_, _, n3.toNat, g1, rfl, ixN_in a3 (by simp; omega), ?_⟩
      have eS : ((ds.map one).set n3.toNat (one c0)) = (ds.set n3.toNat c0).map one := List.map_set.symm
      rw [← List.map_set, ← List.map_set, eS]
      have k2 : Cds (ds.set n3.toNat c0) := cds_set f2 hcr
      have k1 : (ds.set n3.toNat c0).length = cs.length := by rw [List.length_set, f1]
      have k4 : ((ds.set n3.toNat c0).map one).length ≤ 5 := by rw [List.length_map, k1]; omega
      have k3 : joinN ("" : Str) ((ds.set n3.toNat c0).map one) ≤ ((ds.set n3.toNat c0).map one).length * 1 := joinN_le fun t ht => (cds_lt k2 t ht).ok.1
      have kl : (Txt.join "" ((ds.set n3.toNat c0).map one) : Str).length ≤ 6 := (nl_join (cds_lt k2) (by omega)).1.1
      have kq : (("q" : Str).length) = 1 := rfl
      have kz : (("z" : Str).length) = 1 := rfl
      have g1' : ∀ o, (s7.set s'.length o)[s'.length]? = some o := fun o => set_same (lt_of_at g1)
      have g2' : ∀ o, (s7.set s'.length o)[s4.length]? = some (.lst ((xs.map PyData.str).map Cl.sh)) := fun o => (set_other (by omega)).trans g2
      repeat walk_at "ds"
      refine ⟨_, g2' _, ?_⟩
      repeat walk_at "ds"
      refine ⟨_, snap_list (g1' _), ?_⟩
      refine bx_joinO (by omega) ?_
      have em : (0 + (i : Int)) % 2 = 0 ∨ (0 + (i : Int)) % 2 = 1 := by omega
      have rz : strRep "z" ((0 + (i : Int)) % 2) = "" ∨ strRep "z" ((0 + (i : Int)) % 2) = "z" := by
        rcases em with er | er
        · rw [er]; exact .inl rfl
        · rw [er]; exact .inr rfl
      have hrep : -1000000 ≤ (0 + (i : Int)) % 2 ∧ (0 + (i : Int)) % 2 ≤ 1000000 ∧ ("z" : Str).length ≤ 16 := by
        refine ⟨?_, ?_, by decide⟩ <;> rcases em with er | er <;> rw [er] <;> decide
      generalize hr : strRep "z" ((0 + (i : Int)) % 2) = rep at rz
      have rl : rep.length ≤ 1 := by
        rcases rz with rfl | rfl <;> decide
      have kk : (Txt.join "" ((ds.set n3.toNat c0).map one) ++ "q" : Str).length ≤ 7 := by rw [len_append, kq]; omega
      repeat walk_at "ds"
      rw [hr]
      refine bx_add_str (line_of (by omega)) ?_
      refine ⟨_, g2' _, line_of (by simp; omega), ?_⟩
      refine turn_nx ?_
      have l7 : s4.length < s7.length := lt_of_at g2
      refine ⟨ds.set n3.toNat c0, xs ++ [(Txt.join "" ((ds.set n3.toNat c0).map one) ++ "q" ++ rep)], _, k1, k2, fun c => by rw [List.set_set, f0], fun x hx => ?_, fun k x hx => ?_, by simp [f4], (S7.set (by omega)).set (by omega), (F7.put le2).put (by omega), (set_other (by omega)).trans (g1' _), ?_, rfl⟩
      · rcases List.mem_append.mp hx with q | q
        · exact f3 x q
        · rw [List.mem_singleton] at q; subst q; exact nam_word k2 (by rw [k1]; omega) rz
      · by_cases hk : k < xs.length
        · rw [List.getElem?_append_left hk] at hx
          exact f5 k x hx
        · have hk2 := (List.getElem?_eq_some_iff.mp hx).1
          rw [List.length_append, List.length_singleton] at hk2
          have hk3 : k = xs.length := by omega
          subst hk3
          rw [List.getElem?_append_right (Nat.le_refl _), Nat.sub_self] at hx
          injection hx with hx
          rw [← hx]
          refine ⟨tl rep, ?_⟩
          rw [tl_word, f0, hc0, f4, show (0 + (i : Int)) = (i : Int) by omega]
      · rw [set_same (by simp; omega)]
        simp
    · obtain ⟨ds, xs, z, f1, f2, f0, f3, f5, f4, S7, F7, g1, g2, rfl⟩ := hI
      rw [rngD_length] at f4
      have f4 : xs.length = 17 := f4
      have nd := nm_nodup hp f4 f5
      repeat walk_at "ds"
      refine draw S7 (by omega) fun n5 s8 a8 b8 S8 F8 => ?_
      have g3 := F8.at_ g2 (by omega)
      have F9 := F7.trans F8
      have fin : ∀ (xs : List Str) (s9 : St), (∀ x ∈ xs, Nam x) → xs.Nodup → xs.length = 17 → Dq b s9 → Fr b s s9 → s9[s4.length]? = some (.lst ((xs.map PyData.str).map Cl.sh)) → Q (.sh (.list (xs.map PyData.str))) (trim s.length (.sh (.list (xs.map PyData.str))) (s9.set s4.length .gone)) := fun xs s9 hx hn hl D F hg =>
        h xs _ hx hn hl ((D.set (by omega)).trim hlt) (F.put (by omega)).trim
      repeat walk_at "ds"
      refine two_dec (fun h5 => ?_) (fun h5 => ?_)
      · repeat walk_at "ds"
        refine bx_ix_in (xs := words8) (Int.emod_nonneg _ (by omega)) (Int.emod_lt_of_pos _ (by omega)) fun d hd => ?_
        obtain ⟨x, rfl, hx, hq⟩ := words8_nam d hd
        have hnx : x ∉ xs := fun hm => by
          obtain ⟨k, hk, e⟩ := List.getElem_of_mem hm
          obtain ⟨zs, ez⟩ := f5 k x (by rw [List.getElem?_eq_getElem hk, e])
          rw [ez] at hq
          exact hq (by simp)
        repeat walk_at "ds"
        refine draw S8 (by omega) fun n6 s9 a9 b9 S9 F9' => ?_
        have g4 := F9'.at_ g3 (by omega)
        repeat walk_at "ds"
        refine ⟨_, _, n6.toNat, g4, rfl, ixN_in a9 (by simp; omega), ?_⟩
        rw [← List.map_set, ← List.map_set]
        have l9 := lt_of_at g4
        have g5 := set_same (s := s9) (o := .lst (((xs.set n6.toNat x).map PyData.str).map Cl.sh)) l9
        have D9 := S9.set (o := .lst (((xs.set n6.toNat x).map PyData.str).map Cl.sh)) (show b ≠ s4.length by omega)
        have FA := (F9.trans F9').put (o := .lst (((xs.set n6.toNat x).map PyData.str).map Cl.sh)) (show s.length ≤ s4.length by omega)
        generalize s9.set s4.length (.lst (((xs.set n6.toNat x).map PyData.str).map Cl.sh)) = sA at g5 D9 FA ⊢
        repeat walk_at "ds"
        refine ⟨_, _, g5, shL_map _, ?_⟩
        repeat walk_at "ds"
        exact fin _ _ (fun y hy => (List.mem_or_eq_of_mem_set hy).elim (f3 y) fun e => e ▸ hx) (nodup_set nd hnx) (by rw [List.length_set, f4]) D9 FA g5
      · repeat walk_at "ds"
        refine ⟨_, _, g3, shL_map _, ?_⟩
        repeat walk_at "ds"
        exact fin _ _ f3 nd f4 S8 F9 g3
end
end Ds.K60
namespace Ds.K60
open PySem PySem.Spec PyProof.Rows L2 Dn TL
theorem er_map : ∀ (r : List Str) (k : Nat), (((r.map PyData.str).map Cl.sh).eraseIdx (k : Int).toNat) = (((r.eraseIdx k).map PyData.str).map Cl.sh)
  | [], _ => rfl
  | _ :: _, 0 => rfl
  | x :: r, k + 1 => by
    have ih := er_map r k
    rw [Int.toNat_natCast] at ih ⊢
    show _ :: ((r.map PyData.str).map Cl.sh).eraseIdx k = _
    rw [ih]
    rfl
theorem nm_cons {α : Type} {a b : α} {l : List α} (h : a ≠ b) (k : a ∉ l) : a ∉ b :: l := fun z => (List.mem_cons.mp z).elim h k
theorem sd {a b c : Str} (h : Lo a) : a ≠ b ++ "." ++ c := fun e => h.2 (by rw [e, tl_dot]; simp)
theorem app_dot : ∀ {a c b d : List Nat}, 46 ∉ a → 46 ∉ c → a ++ 46 :: b = c ++ 46 :: d → a = c ∧ b = d
  | [], [], _, _, _, _, e => ⟨rfl, (List.cons.inj e).2⟩
  | [], y :: c, _, _, _, h, e => absurd ((List.cons.inj e).1 ▸ List.mem_cons_self) h
  | x :: a, [], _, _, h, _, e => absurd ((List.cons.inj e).1 ▸ List.mem_cons_self) h
  | x :: a, y :: c, _, _, h, k, e => by
    obtain ⟨h1, h2⟩ := app_dot (fun z => h (List.mem_cons_of_mem _ z)) (fun z => k (List.mem_cons_of_mem _ z)) (List.cons.inj e).2
    exact ⟨by rw [(List.cons.inj e).1, h1], h2⟩
theorem dot_inj {a b c d : Str} (h : Lo a) (k : Lo c) (e : a ++ "." ++ b = c ++ "." ++ d) : a = c ∧ b = d := by
  have e2 := congrArg tl e
  rw [tl_dot, tl_dot] at e2
  obtain ⟨h1, h2⟩ := app_dot h.2 k.2 e2
  exact ⟨ext_tl h1, ext_tl h2⟩
theorem box9 {x0 x1 x2 x3 x4 x5 : Str} (Lx0 : Lo x0) (Lx1 : Lo x1) (Lx2 : Lo x2) (Lx3 : Lo x3) (Lx4 : Lo x4) (Lx5 : Lo x5) (n01 : x0 ≠ x1) (n02 : x0 ≠ x2) (n03 : x0 ≠ x3) (n04 : x0 ≠ x4) (n05 : x0 ≠ x5) (n12 : x1 ≠ x2) (n13 : x1 ≠ x3) (n14 : x1 ≠ x4) (n15 : x1 ≠ x5) (n23 : x2 ≠ x3) (n24 : x2 ≠ x4) (n25 : x2 ≠ x5) (n34 : x3 ≠ x4) (n35 : x3 ≠ x5) (n45 : x4 ≠ x5) : [x0, x1, x2, x0 ++ "." ++ x1, x0 ++ "." ++ x2, x3, x3 ++ "." ++ x0, x4, x5].Nodup := by
  exact List.nodup_cons.mpr ⟨(nm_cons n01 (nm_cons n02 (nm_cons (sd Lx0) (nm_cons (sd Lx0) (nm_cons n03 (nm_cons (sd Lx0) (nm_cons n04 (nm_cons n05 List.not_mem_nil)))))))), (List.nodup_cons.mpr ⟨(nm_cons n12 (nm_cons (sd Lx1) (nm_cons (sd Lx1) (nm_cons n13 (nm_cons (sd Lx1) (nm_cons n14 (nm_cons n15 List.not_mem_nil))))))), (List.nodup_cons.mpr ⟨(nm_cons (sd Lx2) (nm_cons (sd Lx2) (nm_cons n23 (nm_cons (sd Lx2) (nm_cons n24 (nm_cons n25 List.not_mem_nil)))))), (List.nodup_cons.mpr ⟨(nm_cons (fun e => n12 (dot_inj Lx0 Lx0 e).2) (nm_cons (Ne.symm (sd Lx3)) (nm_cons (fun e => n03 (dot_inj Lx0 Lx3 e).1) (nm_cons (Ne.symm (sd Lx4)) (nm_cons (Ne.symm (sd Lx5)) List.not_mem_nil))))), (List.nodup_cons.mpr ⟨(nm_cons (Ne.symm (sd Lx3)) (nm_cons (fun e => n03 (dot_inj Lx0 Lx3 e).1) (nm_cons (Ne.symm (sd Lx4)) (nm_cons (Ne.symm (sd Lx5)) List.not_mem_nil)))), (List.nodup_cons.mpr ⟨(nm_cons (sd Lx3) (nm_cons n34 (nm_cons n35 List.not_mem_nil))), (List.nodup_cons.mpr ⟨(nm_cons (Ne.symm (sd Lx4)) (nm_cons (Ne.symm (sd Lx5)) List.not_mem_nil)), (List.nodup_cons.mpr ⟨(nm_cons n45 List.not_mem_nil), (List.nodup_cons.mpr ⟨List.not_mem_nil, List.nodup_nil⟩)⟩)⟩)⟩)⟩)⟩)⟩)⟩)⟩
theorem box9k {x0 x1 x2 x3 x4 x5 K : Str} (Lx0 : Lo x0) (Lx1 : Lo x1) (Lx2 : Lo x2) (Lx3 : Lo x3) (Lx4 : Lo x4) (Lx5 : Lo x5) (LK : Lo K) (n01 : x0 ≠ x1) (n02 : x0 ≠ x2) (n03 : x0 ≠ x3) (n04 : x0 ≠ x4) (n05 : x0 ≠ x5) (n12 : x1 ≠ x2) (n13 : x1 ≠ x3) (n14 : x1 ≠ x4) (n15 : x1 ≠ x5) (n23 : x2 ≠ x3) (n24 : x2 ≠ x4) (n25 : x2 ≠ x5) (n34 : x3 ≠ x4) (n35 : x3 ≠ x5) (n45 : x4 ≠ x5) (k0 : x0 ≠ K) (k3 : K ≠ x3) : [x0, x1, x2, x0 ++ "." ++ x1, x0 ++ "." ++ x2, K ++ "." ++ x0, x3 ++ "." ++ x0, x4, x5].Nodup := by
  exact List.nodup_cons.mpr ⟨(nm_cons n01 (nm_cons n02 (nm_cons (sd Lx0) (nm_cons (sd Lx0) (nm_cons (sd Lx0) (nm_cons (sd Lx0) (nm_cons n04 (nm_cons n05 List.not_mem_nil)))))))), (List.nodup_cons.mpr ⟨(nm_cons n12 (nm_cons (sd Lx1) (nm_cons (sd Lx1) (nm_cons (sd Lx1) (nm_cons (sd Lx1) (nm_cons n14 (nm_cons n15 List.not_mem_nil))))))), (List.nodup_cons.mpr ⟨(nm_cons (sd Lx2) (nm_cons (sd Lx2) (nm_cons (sd Lx2) (nm_cons (sd Lx2) (nm_cons n24 (nm_cons n25 List.not_mem_nil)))))), (List.nodup_cons.mpr ⟨(nm_cons (fun e => n12 (dot_inj Lx0 Lx0 e).2) (nm_cons (fun e => k0 (dot_inj Lx0 LK e).1) (nm_cons (fun e => n03 (dot_inj Lx0 Lx3 e).1) (nm_cons (Ne.symm (sd Lx4)) (nm_cons (Ne.symm (sd Lx5)) List.not_mem_nil))))), (List.nodup_cons.mpr ⟨(nm_cons (fun e => k0 (dot_inj Lx0 LK e).1) (nm_cons (fun e => n03 (dot_inj Lx0 Lx3 e).1) (nm_cons (Ne.symm (sd Lx4)) (nm_cons (Ne.symm (sd Lx5)) List.not_mem_nil)))), (List.nodup_cons.mpr ⟨(nm_cons (fun e => k3 (dot_inj LK Lx3 e).1) (nm_cons (Ne.symm (sd Lx4)) (nm_cons (Ne.symm (sd Lx5)) List.not_mem_nil))), (List.nodup_cons.mpr ⟨(nm_cons (Ne.symm (sd Lx4)) (nm_cons (Ne.symm (sd Lx5)) List.not_mem_nil)), (List.nodup_cons.mpr ⟨(nm_cons n45 List.not_mem_nil), (List.nodup_cons.mpr ⟨List.not_mem_nil, List.nodup_nil⟩)⟩)⟩)⟩)⟩)⟩)⟩)⟩)⟩
theorem er_not {r : List Str} {k : Nat} (h : r.Nodup) (hk : k < r.length) : r[k] ∉ r.eraseIdx k := fun z => by
  obtain ⟨i, hi, e⟩ := List.mem_eraseIdx_iff_getElem.mp z
  obtain ⟨hi1, hi2⟩ := e
  rcases Nat.lt_trichotomy i k with h1 | h1 | h1
  · exact List.pairwise_iff_getElem.mp h i k hi hk h1 hi2
  · exact hi1 h1
  · exact List.pairwise_iff_getElem.mp h k i hk hi h1 hi2.symm
end Ds.K60
namespace Ds.K60
open PySem PySem.Spec PyProof.Rows L2 Dn TL
section
variable {b : Nat} {s : St} {Q : Cl → St → Prop}
def lastB : M Fl := (mRet (mSh (mSl (mSlC (mLo (mLV 2)) (mPart (mD (mCall f__law_draw [(mLo (mLV 0)), (mSh (mC (PyData.int 4)))]))) mNoPart) mNoPart (mPart (mBin dAdd (mC (PyData.int 3)) (mD (mCall f__law_some [(mLo (mLV 0)), (mSh (mC (PyData.int 2))), (mSh (mC (PyData.int 5)))])))))))
theorem boxes_ {xs : List Str} (S : Dq b s) (hx : ∀ x ∈ xs, Nam x) (hn : xs.Nodup) (hl : xs.length = 17) (h : ∀ (Bs : List Str) (s' : St), (∀ x ∈ Bs, Bxo x) → Bs.Nodup → 3 ≤ Bs.length ∧ Bs.length ≤ 8 → Dq b s' → Fr b s s' → Q (.sh (.list (Bs.map PyData.str))) s') : FRun f__law_boxes [.lo b, .sh (.list (xs.map PyData.str))] s Q := by
  have hlt := S.lt
  match xs, hl, hx, hn with
  | [x0, x1, x2, x3, x4, x5, x6, x7, x8, x9, xa, xb, xc, xd, xe, xf, xg], _, hx, hn =>
  have L0 := (hx x0 (by simp)).lo.1
  have L1 := (hx x1 (by simp)).lo.1
  have L2 := (hx x2 (by simp)).lo.1
  have L3 := (hx x3 (by simp)).lo.1
  have L4 := (hx x4 (by simp)).lo.1
  have L5 := (hx x5 (by simp)).lo.1
  have dl : ((".": Str).length) = 1 := rfl
  have kl : (("k.": Str).length) = 2 := rfl
  have h0 : x0.length + (".": Str).length ≤ sizeLine := line_of (by have := L0.1.1; omega)
  have h3 : x3.length + (".": Str).length ≤ sizeLine := line_of (by have := L3.1.1; omega)
  have h0k : x0.length + ("k.": Str).length ≤ sizeLine := line_of (by have := L0.1.1; omega)
  have h01 : (x0 ++ "." : Str).length + x1.length ≤ sizeLine := line_of (by rw [len_append]; have := L0.1.1; have := L1.1.1; omega)
  have h02 : (x0 ++ "." : Str).length + x2.length ≤ sizeLine := line_of (by rw [len_append]; have := L0.1.1; have := L2.1.1; omega)
  have h30 : (x3 ++ "." : Str).length + x0.length ≤ sizeLine := line_of (by rw [len_append]; have := L3.1.1; have := L0.1.1; omega)
  have h0k0 : (x0 ++ "k." : Str).length + x0.length ≤ sizeLine := line_of (by rw [len_append]; have := L0.1.1; omega)
  refine frun_fn rfl ?_
  unfold m__law_boxes
  show RunX _ (mSeq _ (mSeq _ (mSeq _ lastB))) _ _ _
  repeat walk_at "ds"
  have a1 : (s ++ [Ob.lst [Cl.sh (.str x0), .sh (.str x1), .sh (.str x2), .sh (.str (x0 ++ "." ++ x1)), .sh (.str (x0 ++ "." ++ x2)), .sh (.str x3)]])[s.length]? = some (.lst (([.str x0, .str x1, .str x2, .str (x0 ++ "." ++ x1), .str (x0 ++ "." ++ x2), .str x3] : List D).map Cl.sh)) := app_new
  refine ⟨_, _, snap_list a1, rfl, line_of (by show 9 ≤ 16777216; decide), ?_⟩
  repeat walk_at "ds"
  have B0 : ∀ x ∈ [x0, x1, x2, x0 ++ "." ++ x1, x0 ++ "." ++ x2, x3, x3 ++ "." ++ x0, x4, x5], Bxo x := fun x hx => by
    simp only [List.mem_cons, List.not_mem_nil, or_false] at hx
    rcases hx with rfl | rfl | rfl | rfl | rfl | rfl | rfl | rfl | rfl
    · exact .one L0
    · exact .one L1
    · exact .one L2
    · exact .two L0 L1
    · exact .two L0 L2
    · exact .one L3
    · exact .two L3 L0
    · exact .one L4
    · exact .one L5
  have hn6 : [x0, x1, x2, x3, x4, x5].Nodup := (List.take_sublist 6 [x0, x1, x2, x3, x4, x5, x6, x7, x8, x9, xa, xb, xc, xd, xe, xf, xg]).nodup hn
  obtain ⟨⟨n01, n02, n03, n04, n05⟩, ⟨n12, n13, n14, n15⟩, ⟨n23, n24, n25⟩, ⟨n34, n35⟩, n45⟩ : (x0 ≠ x1 ∧ x0 ≠ x2 ∧ x0 ≠ x3 ∧ x0 ≠ x4 ∧ x0 ≠ x5) ∧ (x1 ≠ x2 ∧ x1 ≠ x3 ∧ x1 ≠ x4 ∧ x1 ≠ x5) ∧ (x2 ≠ x3 ∧ x2 ≠ x4 ∧ x2 ≠ x5) ∧ (x3 ≠ x4 ∧ x3 ≠ x5) ∧ x4 ≠ x5 := by simpa using hn6
  have N0 := box9 L0 L1 L2 L3 L4 L5 n01 n02 n03 n04 n05 n12 n13 n14 n15 n23 n24 n25 n34 n35 n45
  have K0 : Bxo (x0 ++ "k." ++ x0) ∧ [x0, x1, x2, x0 ++ "." ++ x1, x0 ++ "." ++ x2, x0 ++ "k." ++ x0, x3 ++ "." ++ x0, x4, x5].Nodup := by
    have o7 := (hx x0 (by simp)).lo.2
    have ok : Lo (x0 ++ "k") := by
      refine ⟨⟨?_, fun c hc => ?_⟩, fun z => ?_⟩
      · rw [len_append]
        show x0.length + 1 ≤ 8
        omega
      · rw [tl_append] at hc
        rcases List.mem_append.mp hc with z | z
        · exact L0.1.2 c z
        · have e : tl ("k" : Str) = [107] := by decide
          rw [e] at z
          simp at z
          omega
      · rw [tl_append] at z
        rcases List.mem_append.mp z with z | z
        · exact L0.2 z
        · exact absurd z (by decide)
    have e : x0 ++ "k." ++ x0 = (x0 ++ "k") ++ "." ++ x0 := ext_tl (by
      rw [tl_append, tl_append, tl_append, tl_append, tl_append]
      have e : tl ("k." : Str) = tl ("k" : Str) ++ tl ("." : Str) := by decide
      rw [e]
      simp)
    have lk : ∀ {c : Nat}, (tl (x0 ++ "k")).getLast? = some c → c = 107 := fun {c} h => by
      rw [tl_append, show tl ("k" : Str) = [107] from rfl, List.getLast?_append] at h
      have h : (some 107 : Option Nat) = some c := h
      injection h with h
      exact h.symm
    have k0 : x0 ≠ x0 ++ "k" := fun e => by
      have := congrArg Str.length e
      rw [len_append, show ("k" : Str).length = 1 from rfl] at this
      omega
    have k3 : x0 ++ "k" ≠ x3 := fun e => by
      have := (hx x3 (by simp)).nk
      unfold NK at this
      rw [← e, tl_append, show tl ("k" : Str) = [107] from rfl, List.getLast?_append] at this
      exact this rfl
    rw [e]
    exact ⟨.two ok L0, box9k L0 L1 L2 L3 L4 L5 ok n01 n02 n03 n04 n05 n12 n13 n14 n15 n23 n24 n25 n34 n35 n45 k0 k3⟩
  have a2 : (s ++ [Ob.lst [Cl.sh (.str x0), .sh (.str x1), .sh (.str x2), .sh (.str (x0 ++ "." ++ x1)), .sh (.str (x0 ++ "." ++ x2)), .sh (.str x3)]]).length = s.length + 1 := by simp
  rw [a2]
  have D0 := (S.app (o := Ob.lst [Cl.sh (.str x0), .sh (.str x1), .sh (.str x2), .sh (.str (x0 ++ "." ++ x1)), .sh (.str (x0 ++ "." ++ x2)), .sh (.str x3)])).app (o := Ob.lst ((([x0, x1, x2, x0 ++ "." ++ x1, x0 ++ "." ++ x2, x3, x3 ++ "." ++ x0, x4, x5] : List Str).map PyData.str).map Cl.sh))
  have F0 : Fr b s (s ++ [Ob.lst [Cl.sh (.str x0), .sh (.str x1), .sh (.str x2), .sh (.str (x0 ++ "." ++ x1)), .sh (.str (x0 ++ "." ++ x2)), .sh (.str x3)]] ++ [Ob.lst ((([x0, x1, x2, x0 ++ "." ++ x1, x0 ++ "." ++ x2, x3, x3 ++ "." ++ x0, x4, x5] : List Str).map PyData.str).map Cl.sh)]) := Fr.app.trans Fr.app
  have g0 : (s ++ [Ob.lst [Cl.sh (.str x0), .sh (.str x1), .sh (.str x2), .sh (.str (x0 ++ "." ++ x1)), .sh (.str (x0 ++ "." ++ x2)), .sh (.str x3)]] ++ [Ob.lst ((([x0, x1, x2, x0 ++ "." ++ x1, x0 ++ "." ++ x2, x3, x3 ++ "." ++ x0, x4, x5] : List Str).map PyData.str).map Cl.sh)])[s.length + 1]? = some (.lst ((([x0, x1, x2, x0 ++ "." ++ x1, x0 ++ "." ++ x2, x3, x3 ++ "." ++ x0, x4, x5] : List Str).map PyData.str).map Cl.sh)) := by
    rw [← a2]
    exact app_new
  have es : (s ++ [Ob.lst [Cl.sh (.str x0), .sh (.str x1), .sh (.str x2), .sh (.str (x0 ++ "." ++ x1)), .sh (.str (x0 ++ "." ++ x2)), .sh (.str x3)]] ++ [Ob.lst (List.map Cl.sh ([.str x0, .str x1, .str x2, .str (x0 ++ "." ++ x1), .str (x0 ++ "." ++ x2), .str x3] ++ [.str (x3 ++ "." ++ x0), .str x4, .str x5]))]) = (s ++ [Ob.lst [Cl.sh (.str x0), .sh (.str x1), .sh (.str x2), .sh (.str (x0 ++ "." ++ x1)), .sh (.str (x0 ++ "." ++ x2)), .sh (.str x3)]] ++ [Ob.lst ((([x0, x1, x2, x0 ++ "." ++ x1, x0 ++ "." ++ x2, x3, x3 ++ "." ++ x0, x4, x5] : List Str).map PyData.str).map Cl.sh)]) := rfl
  clear a1 a2
  have fin : ∀ (L : List Str) (s1 : St), (∀ x ∈ L, Bxo x) → L.Nodup → L.length = 9 → Dq b s1 → Fr b s s1 → s1[s.length + 1]? = some (.lst ((L.map PyData.str).map Cl.sh)) → Run lastB [.lo b, .sh (.list ([x0, x1, x2, x3, x4, x5, x6, x7, x8, x9, xa, xb, xc, xd, xe, xf, xg].map PyData.str)), .lo (s.length + 1)] s1 fun fl e1 s1 => (fl = .nx → Q (.sh .none) (trim s.length (.sh .none) s1)) ∧ (∀ c, fl = .rt c → Q c (trim s.length c s1)) ∧ fl ≠ .bk ∧ fl ≠ .ct := fun L s1 hL hLn hl9 D F g => by
    unfold lastB
    repeat walk_at "ds"
    refine draw D (by omega) fun n1 s2 c1 c2 D2 F2 => ?_
    have g2 := F2.at_ g (by omega)
    repeat walk_at "ds"
    refine ⟨_, snap_list g2, ?_⟩
    repeat walk_at "ds"
    obtain ⟨k, rfl⟩ := Int.eq_ofNat_of_zero_le c1
    rw [cut_hi]
    refine some__ D2 (by decide) fun v s3 hv D3 F3 => ?_
    repeat walk_at "ds"
    obtain ⟨v, rfl⟩ := Int.eq_ofNat_of_zero_le (show 0 ≤ v by omega)
    have ev : (3 + (v : Int)) = ((3 + v : Nat) : Int) := by omega
    rw [ev, cut_lo, ← List.map_drop, ← List.map_take]
    refine h _ _ (fun x hx => hL x (List.mem_of_mem_drop (List.mem_of_mem_take hx))) ((List.take_sublist _ _).nodup ((List.drop_sublist _ _).nodup hLn)) ?_ (D3.trim hlt) (F.trans (F2.trans F3)).trim
    rw [List.length_take, List.length_drop, hl9]
    omega
  refine draw D0 (by omega) fun n1 s2 c1 c2 D2 F2 => ?_
  have g2 := F2.at_ g0 (by omega)
  have F3 := F0.trans F2
  repeat walk_at "ds"
  refine two_dec (fun h5 => ?_) (fun h5 => ?_)
  · repeat walk_at "ds"
    refine ⟨_, _, 5, g2, rfl, rfl, ?_⟩
    rw [← List.map_set, ← List.map_set]
    repeat walk_at "ds"
    refine fin ([x0, x1, x2, x0 ++ "." ++ x1, x0 ++ "." ++ x2, x3, x3 ++ "." ++ x0, x4, x5].set 5 (x0 ++ "k." ++ x0)) _ (fun y hy => (List.mem_or_eq_of_mem_set hy).elim (B0 y) fun e => e ▸ K0.1) K0.2 (by simp) (D2.set (by omega)) (F3.put (by omega)) (set_same (lt_of_at g2))
  · repeat walk_at "ds"
    exact fin _ _ B0 N0 rfl D2 F3 g2
theorem picked_ {Bs : List Str} {many : Int} (S : Dq b s) (hBn : Bs.Nodup) (hB : Bs.length ≤ 8) (hm : 0 ≤ many ∧ many ≤ 100) (h : ∀ (xs : List Str) (s' : St), (∀ x ∈ xs, x ∈ Bs) → xs.Nodup → xs.length ≤ 8 → Dq b s' → Fr b s s' → Q (.sh (.tuple (xs.map PyData.str))) s') : FRun f__law_picked [.lo b, .sh (.list (Bs.map PyData.str)), .sh (.int many)] s Q := by
  have hlt := S.lt
  refine frun_fn rfl ?_
  unfold m__law_picked
  repeat walk_at "ds"
  refine ⟨_, _, rfl, rfl, ?_⟩
  repeat walk_at "ds"
  have e1 : (s ++ [Ob.lst ((Bs.map PyData.str).map Cl.sh)]).length = s.length + 1 := by simp
  have r0 : (s ++ [Ob.lst ((Bs.map PyData.str).map Cl.sh)] ++ [Ob.lst []])[s.length]? = some (.lst ((Bs.map PyData.str).map Cl.sh)) := by
    rw [app_old (by simp)]
    exact app_new
  have t0 : (s ++ [Ob.lst ((Bs.map PyData.str).map Cl.sh)] ++ [Ob.lst []])[s.length + 1]? = some (.lst ((([] : List Str).map PyData.str).map Cl.sh)) := by
    rw [← e1]
    exact app_new
  rw [e1]
  have D0 := (S.app (o := Ob.lst ((Bs.map PyData.str).map Cl.sh))).app (o := Ob.lst [])
  have F0 : Fr b s (s ++ [Ob.lst ((Bs.map PyData.str).map Cl.sh)] ++ [Ob.lst []]) := Fr.app.trans Fr.app
  generalize s ++ [Ob.lst ((Bs.map PyData.str).map Cl.sh)] ++ [Ob.lst []] = s0 at r0 t0 D0 F0 ⊢
  refine ⟨_, by unfold snaps; rw [snap_list r0]; rfl, ?_⟩
  repeat walk_at "ds"
  obtain ⟨v, hv, hvl⟩ : ∃ v : Nat, (if ((Bs.map PyData.str).length : Int) < many then ((Bs.map PyData.str).length : Int) else many) = (v : Int) ∧ v ≤ Bs.length := by
    rw [List.length_map]
    refine ⟨(if (Bs.length : Int) < many then (Bs.length : Int) else many).toNat, ?_, ?_⟩ <;> split <;> omega
  rw [hv]
  have ev : (v : Int).toNat = v := by omega
  rw [ev]
  refine run_forL _ (fun i e s' => ∃ (rest found : List Str) (z : Cl), rest.length + i = Bs.length ∧ found.length = i ∧ (∀ x ∈ rest, x ∈ Bs) ∧ (∀ x ∈ found, x ∈ Bs) ∧ (rest.Nodup ∧ found.Nodup ∧ ∀ x ∈ found, x ∉ rest) ∧ Dq b s' ∧ Fr b s s' ∧ s'[s.length]? = some (.lst ((rest.map PyData.str).map Cl.sh)) ∧ s'[s.length + 1]? = some (.lst ((found.map PyData.str).map Cl.sh)) ∧ e = [.lo b, .sh (.list (Bs.map PyData.str)), .sh (.int many), .lo s.length, .lo (s.length + 1), z]) ⟨Bs, [], _, rfl, rfl, fun _ h => h, by simp, ⟨hBn, List.nodup_nil, (fun _ h => nomatch h)⟩, D0, F0, r0, t0, rfl⟩ (fun i d e s' hd hI => ?_) fun e s' hI => ?_
  · obtain ⟨rest, found, z, f1, f2, f3, f4, ⟨f5, f6, f7⟩, D, F, g1, g2, rfl⟩ := hI
    obtain ⟨rfl, hi⟩ := rngD_at hd
    refine ⟨_, rfl, ?_⟩
    repeat walk_at "ds"
    refine ⟨_, g2, ?_⟩
    repeat walk_at "ds"
    refine ⟨_, g1, ?_⟩
    repeat walk_at "ds"
    refine ⟨_, by unfold snaps; rw [snap_list g1]; rfl, ?_⟩
    repeat walk_at "ds"
    rw [List.length_map]
    refine draw D (by omega) fun n1 s2 c1 c2 D2 F2 => ?_
    have k1 := F2.at_ g1 (by omega)
    have k2 := F2.at_ g2 (by omega)
    repeat walk_at "ds"
    obtain ⟨k, rfl⟩ := Int.eq_ofNat_of_zero_le c1
    have hk : k < rest.length := by omega
    refine ⟨_, (k : Int), .sh (.str rest[k]), k1, rfl, ⟨by omega, by rw [List.length_map, List.length_map]; omega, line_of (by rw [List.length_map, List.length_map]; omega)⟩, by simp [hk], ?_⟩
    have er : (((rest.map PyData.str).map Cl.sh).eraseIdx (k : Int).toNat) = (((rest.eraseIdx k).map PyData.str).map Cl.sh) := er_map rest k
    rw [er]
    have m2 := (set_other (s := s2) (l := s.length) (o := .lst (((rest.eraseIdx k).map PyData.str).map Cl.sh)) (show s.length + 1 ≠ s.length by omega)).trans k2
    have m1 := set_same (s := s2) (o := .lst (((rest.eraseIdx k).map PyData.str).map Cl.sh)) (lt_of_at k1)
    have D3 := D2.set (o := .lst (((rest.eraseIdx k).map PyData.str).map Cl.sh)) (show b ≠ s.length by omega)
    have F3 := (F.trans F2).put (o := .lst (((rest.eraseIdx k).map PyData.str).map Cl.sh)) (Nat.le_refl s.length)
    generalize s2.set s.length (.lst (((rest.eraseIdx k).map PyData.str).map Cl.sh)) = s3 at m1 m2 D3 F3 ⊢
    repeat walk_at "ds"
    refine ⟨_, m2, Nat.lt_of_le_of_lt (show _ ≤ 100 by rw [List.length_map, List.length_map]; omega) (by decide), ?_⟩
    have e3 : ((found.map PyData.str).map Cl.sh) ++ [.sh (.str rest[k])] = ((found ++ [rest[k]]).map PyData.str).map Cl.sh := by simp
    rw [e3]
    repeat walk_at "ds"
    refine ⟨rest.eraseIdx k, found ++ [rest[k]], _, by rw [List.length_eraseIdx, if_pos hk]; omega, by simp [f2], fun x hx => f3 x (List.mem_of_mem_eraseIdx hx), fun x hx => ?_, ⟨(List.eraseIdx_sublist _ _).nodup f5, List.nodup_append.mpr ⟨f6, by simp, fun a ha b hb => ?_⟩, fun x hx hx2 => ?_⟩, D3.set (by omega), F3.put (by omega), (set_other (by omega)).trans m1, set_same (lt_of_at m2), rfl⟩
    · rcases List.mem_append.mp hx with q | q
      · exact f4 x q
      · simp at q; subst q; exact f3 _ (List.getElem_mem hk)
    · simp at hb; subst hb; exact fun e => f7 a ha (e ▸ List.getElem_mem hk)
    · rcases List.mem_append.mp hx with q | q
      · exact f7 x q (List.mem_of_mem_eraseIdx hx2)
      · simp at q; subst q; exact er_not f5 hk hx2
  · obtain ⟨rest, found, z, f1, f2, f3, f4, ⟨f5, f6, f7⟩, D, F, g1, g2, rfl⟩ := hI
    rw [rngD_length] at f2
    repeat walk_at "ds"
    refine ⟨_, _, snap_list g2, rfl, ?_⟩
    repeat walk_at "ds"
    exact h found _ f4 f6 (by omega) (D.trim hlt) F.trim
end
end Ds.K60
namespace Ds.K60
open PySem PySem.Spec PyProof.Rows L2 Dn TL
theorem bx_first {x : Str} {Q : D → Prop} (hx : Bxo x) (h : ∀ (a : Str) (rest : List Str), Lo a → Q (.list ((a :: rest).map PyData.str))) : ∃ c, sSplit x [.str "."] = some c ∧ Q c := by
  obtain ⟨a, rest, ha, e⟩ := hx.first
  refine bx_parts (Nat.le_trans hx.ok.1 (by decide)) ?_
  rw [e]
  exact h a rest ha
theorem hd_ix {a : Str} {rest : List Str} {Q : D → Prop} (h : Q (.str a)) : ∃ c, dIx (.list ((a :: rest).map PyData.str)) (.int 0) = some c ∧ Q c :=
  bx_ix_lst (d := .str a) (by unfold atI ixN; rw [if_pos (by omega), if_pos (by rw [List.length_map, List.length_cons]; omega)]; rfl) h
end Ds.K60
namespace Ds.K60
open PySem PySem.Spec PyProof.Rows L2 Dn TL
section
variable {b lc : Nat} {s : St} {Q : Cl → St → Prop} {Ws Bs : List Str}
theorem plain_ {kv : List (Key × Cl)} (S : Dq b s) (hc : s[lc]? = some (.dk kv)) (hkb : valC kv (.inr "boxes") = some (.sh (.list (Bs.map PyData.str)))) (hkw : valC kv (.inr "worths") = some (.sh (.list (Ws.map PyData.str)))) (hBn : Bs.Nodup) (hn : lc ≠ b) (hB : ∀ x ∈ Bs, Bxo x) (hBl : 3 ≤ Bs.length ∧ Bs.length ≤ 8) (hWl : 0 < Ws.length ∧ Ws.length ≤ 6) (h : ∀ (w : Wd) (s' : St), WdOk Ws Bs w → Dq b s' → Fr b s s' → Q (.sh (encW w)) s') : FRun f__law_plain [.lo b, .lo lc] s Q := by
  have hlt := S.lt
  refine frun_fn rfl ?_
  unfold m__law_plain
  repeat walk_at "ds"
  refine draw S (by omega) fun way s1 a1 b1 S1 F1 => ?_
  repeat walk_at "ds"
  refine run_compL _ (fun i ys e s' => ∃ xs : List Str, ys = xs.map PyData.str ∧ xs.length = i ∧ (∀ x ∈ xs, x ∈ Bs) ∧ Dq b s' ∧ Fr b s s' ∧ e = [.lo b, .lo lc, .sh (.int way), .no, .no, .no, .no]) ⟨[], rfl, rfl, by simp, S1, F1, rfl⟩ (fun i d ys e s' hd hJ => ?_) fun ys e s' hJ => ?_
  · obtain ⟨xs, rfl, e2, hx, D, F, rfl⟩ := hJ
    refine ⟨_, rfl, ?_⟩
    repeat walk_at "ds"
    refine ⟨_, .inr "boxes", _, F.at_ hc hn, rfl, hkb, ?_⟩
    repeat walk_at "ds"
    refine one_of D (by rw [List.length_map]; omega) fun d s2 hd D2 F2 => ?_
    obtain ⟨x, hxm, rfl⟩ := List.mem_map.mp hd
    repeat walk_at "ds"
    refine ⟨xs ++ [x], by simp, by simp [e2], fun y hy => ?_, D2, F.trans F2, rfl⟩
    rcases List.mem_append.mp hy with q | q
    · exact hx y q
    · simp at q; subst q; exact hxm
  · obtain ⟨xs, rfl, e2, hx, D, F, rfl⟩ := hJ
    rw [rngD_length] at e2
    match xs, e2, hx with
    | [x, y, z], _, hx =>
    have mx := hx x (by simp)
    have my := hx y (by simp)
    have mz := hx z (by simp)
    have hc2 := F.at_ hc hn
    refine ⟨_, shL_map _, ?_⟩
    repeat walk_at "ds"
    refine two_dec (fun h1 => ?_) (fun h1 => ?_)
    · repeat walk_at "ds"
      refine ⟨_, .inr "worths", _, hc2, rfl, hkw, ?_⟩
      repeat walk_at "ds"
      refine one_of D (by rw [List.length_map]; omega) fun d s2 hd D2 F2 => ?_
      obtain ⟨w, hw, rfl⟩ := List.mem_map.mp hd
      repeat walk_at "ds"
      exact h (.take x w) _ ⟨mx, hw⟩ (D2.trim hlt) (F.trans F2).trim
    repeat walk_at "ds"
    refine two_dec (fun h2 => ?_) (fun h2 => ?_)
    · repeat walk_at "ds"
      exact h (.ask x) _ mx (D.trim hlt) F.trim
    repeat walk_at "ds"
    refine two_dec (fun h3 => ?_) (fun h3 => ?_)
    · repeat walk_at "ds"
      refine draw D (by omega) fun n1 s2 c1 d1 D2 F2 => ?_
      repeat walk_at "ds"
      refine draw D2 (by omega) fun n2 s3 c2 d2 D3 F3 => ?_
      repeat walk_at "ds"
      refine bx_ix_in c2 (by simp; omega) fun d hd => ?_
      have hd : d ∈ [.int 0, .int 1, .int 9999, .int n1] := hd
      obtain ⟨m, rfl⟩ : ∃ m, d = .int m := by
        simp at hd
        rcases hd with rfl | rfl | rfl | rfl <;> exact ⟨_, rfl⟩
      repeat walk_at "ds"
      exact h (.number x m) _ mx (D3.trim hlt) (F.trans (F2.trans F3)).trim
    repeat walk_at "ds"
    refine two_dec (fun h4 => ?_) (fun h4 => ?_)
    · repeat walk_at "ds"
      exact h (.copy x y) _ ⟨mx, my⟩ (D.trim hlt) F.trim
    repeat walk_at "ds"
    refine two_dec (fun h5 => ?_) (fun h5 => ?_)
    · repeat walk_at "ds"
      have hw : way = 6 ∨ way = 7 := by omega
      rcases hw with rfl | rfl
      · refine ⟨encW (.mix x y z), rfl, ?_⟩
        repeat walk_at "ds"
        exact h (.mix x y z) _ ⟨mx, my, mz⟩ (D.trim hlt) F.trim
      · refine ⟨encW (.opn x y), rfl, ?_⟩
        repeat walk_at "ds"
        exact h (.opn x y) _ ⟨mx, my⟩ (D.trim hlt) F.trim
    repeat walk_at "ds"
    refine two_dec (fun h6 => ?_) (fun h6 => ?_)
    · repeat walk_at "ds"
      exact h (.tell x) _ mx (D.trim hlt) F.trim
    repeat walk_at "ds"
    refine two_dec (fun h7 => ?_) (fun h7 => ?_)
    · repeat walk_at "ds"
      refine ⟨_, .inr "boxes", _, hc2, rfl, hkb, ?_⟩
      repeat walk_at "ds"
      refine some__ D (by decide) fun v s2 hv D2 F2 => ?_
      repeat walk_at "ds"
      refine picked_ D2 hBn hBl.2 (by omega) fun ps s3 hp _ hpl D3 F3 => ?_
      repeat walk_at "ds"
      exact h (.drop ps) _ ⟨hp, by omega⟩ (D3.trim hlt) (F.trans (F2.trans F3)).trim
    repeat walk_at "ds"
    refine bx_first (hB x mx) fun a rest ha => ?_
    repeat walk_at "ds"
    refine hd_ix ?_
    repeat walk_at "ds"
    refine ⟨_, .inr "boxes", _, hc2, rfl, hkb, ?_⟩
    repeat walk_at "ds"
    match Bs, hBl, hB with
    | x0 :: Bs', hBl, hB =>
    refine hd_ix ?_
    repeat walk_at "ds"
    refine bx_first (hB x0 (by simp)) fun a2 rest2 ha2 => ?_
    repeat walk_at "ds"
    refine hd_ix ?_
    repeat walk_at "ds"
    refine draw D (by omega) fun n1 s2 c1 d1 D2 F2 => ?_
    repeat walk_at "ds"
    refine bx_ix_in c1 d1 fun d hd => ?_
    have hd : d ∈ [encW (.wipe x), encW (.clear a), encW (.clear a2)] := hd
    simp only [List.mem_cons, List.not_mem_nil, or_false] at hd
    have F5 := (F.trans F2)
    rcases hd with rfl | rfl | rfl
    · repeat walk_at "ds"
      exact h (.wipe x) _ mx (D2.trim hlt) F5.trim
    · repeat walk_at "ds"
      exact h (.clear a) _ ⟨ha.1.mono (by decide), ha.2⟩ (D2.trim hlt) F5.trim
    · repeat walk_at "ds"
      exact h (.clear a2) _ ⟨ha2.1.mono (by decide), ha2.2⟩ (D2.trim hlt) F5.trim
end
end Ds.K60
namespace Ds.K60
open PySem PySem.Spec PyProof.Rows L2 Dn TL
/-- a word whose texts are short -/
def WdT : Wd → Prop
  | .take x w => Ok 50 x ∧ Ok 50 w
  | .ask x => Ok 50 x
  | .number x _ => Ok 50 x
  | .copy x y => Ok 50 x ∧ Ok 50 y
  | .mix x y z => Ok 50 x ∧ Ok 50 y ∧ Ok 50 z
  | .opn x y => Ok 50 x ∧ Ok 50 y
  | .tell x => Ok 50 x
  | .wipe x => Ok 50 x
  | .clear n => Ok 20 n
  | .drop xs => (∀ x ∈ xs, Ok 50 x) ∧ xs.length ≤ 10
theorem WdT.of {Ws Bs : List Str} (hW : ∀ w ∈ Ws, Ok 10 w) (hB : ∀ x ∈ Bs, Bxo x) {w : Wd} (h : WdOk Ws Bs w) : WdT w := by
  have b : ∀ {x : Str}, x ∈ Bs → Ok 50 x := fun hx => (hB _ hx).ok.mono (by decide)
  cases w with
  | take x w => exact ⟨b h.1, (hW _ h.2).mono (by decide)⟩
  | ask x => exact b h
  | number x n => exact b h
  | copy x y => exact ⟨b h.1, b h.2⟩
  | mix x y z => exact ⟨b h.1, b h.2.1, b h.2.2⟩
  | opn x y => exact ⟨b h.1, b h.2⟩
  | tell x => exact b h
  | wipe x => exact b h
  | clear n => exact h.1.mono (by decide)
  | drop xs => exact ⟨fun x hx => b (h.1 x hx), h.2⟩
inductive WfN (ds : List Df) (Ws Bs : List Str) : Nat → Nat → Nd → Prop where
  | pl {d l : Nat} {w : Wd} : WdT w → WfN ds Ws Bs d l (.pl w)
  | out {d l n : Nat} : 1 ≤ n → n ≤ l → WfN ds Ws Bs d l (.out n)
  | risk {d l : Nat} {x : Str} : Ok 10 x → WfN ds Ws Bs d l (.risk x)
  | fault {d l : Nat} {x : Str} : Ok 10 x → WfN ds Ws Bs d l (.fault x)
  | back {d l : Nat} : WfN ds Ws Bs d l .back
  | call {d l : Nat} {f : Str} {as gs : List Str} (e : Df) : e ∈ ds → e.nm = f → as.length = e.ps.length → gs.length = e.rs.length → as.length ≤ 8 → gs.length ≤ 8 → (∀ x ∈ as, x ∈ Bs) → (∀ x ∈ gs, x ∈ Bs) → as.Nodup → WfN ds Ws Bs d l (.call f as gs)
  | choose {d l : Nat} {rs : List Rw} : 1 ≤ rs.length → rs.length ≤ 4 → (∀ r ∈ rs, r.length ≤ 22) → (∀ r ∈ rs, ∀ w ∈ r, WfN ds Ws Bs d l w) → WfN ds Ws Bs (d + 1) l (.choose rs)
  | loop {d l : Nat} {r : Rw} : r.length ≤ 22 → (∀ w ∈ r, WfN ds Ws Bs d (l + 1) w) → WfN ds Ws Bs (d + 1) l (.loop r)
def WfR (ds : List Df) (Ws Bs : List Str) (d l : Nat) (r : Rw) : Prop := r.length ≤ 22 ∧ ∀ w ∈ r, WfN ds Ws Bs d l w
section
variable {ds ds' : List Df} {Ws Bs : List Str} {d l : Nat}
theorem WfN.up {w : Nd} (h : WfN ds Ws Bs d l w) (hd : ∀ e ∈ ds, e ∈ ds') : WfN ds' Ws Bs (d + 1) l w := by
  induction h with
  | pl h => exact .pl h
  | out h k => exact .out h k
  | risk h => exact .risk h
  | fault h => exact .fault h
  | back => exact .back
  | call e a b c d' f g i j k => exact .call e (hd _ a) b c d' f g i j k
  | choose a b c _ ih => exact .choose a b c fun r hr w hw => ih r hr w hw
  | loop a _ ih => exact .loop a fun w hw => ih w hw
theorem WfN.more {w : Nd} (h : WfN ds Ws Bs d l w) (hd : ∀ e ∈ ds, e ∈ ds') : WfN ds' Ws Bs d l w := by
  induction h with
  | pl h => exact .pl h
  | out h k => exact .out h k
  | risk h => exact .risk h
  | fault h => exact .fault h
  | back => exact .back
  | call e a b c d' f g i j k => exact .call e (hd _ a) b c d' f g i j k
  | choose a b c _ ih => exact .choose a b c fun r hr w hw => ih r hr w hw
  | loop a _ ih => exact .loop a fun w hw => ih w hw
theorem WfR.up {r : Rw} (h : WfR ds Ws Bs d l r) : WfR ds Ws Bs (d + 1) l r := ⟨h.1, fun w hw => (h.2 w hw).up fun _ h => h⟩
theorem WfR.ups {r : Rw} {k : Nat} (h : WfR ds Ws Bs d l r) : WfR ds Ws Bs (d + k) l r := by
  induction k with
  | zero => exact h
  | succ k ih => exact ih.up
theorem WfR.more {r : Rw} (h : WfR ds Ws Bs d l r) (hd : ∀ e ∈ ds, e ∈ ds') : WfR ds' Ws Bs d l r := ⟨h.1, fun w hw => (h.2 w hw).more hd⟩
theorem WfR.app {r r' : Rw} (h : WfR ds Ws Bs d l r) (k : WfR ds Ws Bs d l r') (hl : r.length + r'.length ≤ 22) : WfR ds Ws Bs d l (r ++ r') := ⟨by rw [List.length_append]; exact hl, fun w hw => (List.mem_append.mp hw).elim (h.2 w) (k.2 w)⟩
/-- a word in a row -/
theorem wf_word {R : Rw} (h : WfR ds Ws Bs d l R) : ∀ {q : List Nat} {w : Nd}, wdR R q = some w → ∃ d', WfN ds Ws Bs d' (l + lpsR R q) w ∧ q.length + 2 * d' ≤ 2 * d + 1
  | [], w, e => by cases e
  | [i], w, e => by
    obtain ⟨r, k, h1, h2, h3⟩ := wdR_some e
    cases h1
    exact ⟨d, h.2 w (List.mem_of_getElem? h2), by simp; omega⟩
  | i :: j :: q, w, e => by
    obtain ⟨r, k, h1, h2, h3⟩ := wdR_some e
    obtain ⟨rfl, u, h4, h5⟩ := rowR_two h1
    obtain ⟨d1, W, hl⟩ := wf_word h h4
    have hw := List.mem_of_getElem? h2
    have hr := List.mem_of_getElem? h5
    have el : lpsR R (k :: j :: q) = (if isLp (wdR R q) = true then 1 else 0) + lpsR R q := rfl
    rw [el, h4]
    cases W with
    | @choose d2 _ rs a b c f =>
      refine ⟨d2, ?_, by simp; omega⟩
      have hz : isLp (some (Nd.choose rs)) = false := rfl
      rw [hz, if_neg (by decide), Nat.zero_add]
      exact f r hr w hw
    | @loop d2 _ r' a f =>
      have hr : r ∈ [r'] := hr
      rw [List.mem_singleton] at hr
      subst hr
      refine ⟨d2, ?_, by simp; omega⟩
      have hz : isLp (some (Nd.loop r)) = true := rfl
      rw [hz, if_pos rfl, show l + (1 + lpsR R q) = l + lpsR R q + 1 by omega]
      exact f w hw
    | _ => cases hr
theorem wf_len {R : Rw} (h : WfR ds Ws Bs d l R) {q : List Nat} {r : Rw} {k : Nat} (e : rowR R q = some (r, k)) : r.length ≤ 22 := by
  match q, e with
  | [i], e => cases e; exact h.1
  | i :: j :: q, e =>
    obtain ⟨rfl, u, h4, h5⟩ := rowR_two e
    obtain ⟨d1, W, hl⟩ := wf_word h h4
    have hr := List.mem_of_getElem? h5
    cases W with
    | choose a b c f => exact c r hr
    | @loop d2 _ r' a f =>
      have hr : r ∈ [r'] := hr
      rw [List.mem_singleton] at hr
      subst hr
      exact a
    | _ => cases hr
theorem sh_wd {w : Wd} (ok : WdT w) : Sh 2 (encW w) := by
  have s1 : ∀ {x : Str} {k : Nat}, Ok 50 x → Sh k (.str x) := fun h => Sh.str h
  have s0 : ∀ {x : Str} {k : Nat}, (decide (x.length ≤ 8) && (tl x).all (· < 128)) = true → Sh k (.str x) := fun h => Sh.str (n := 8) (Ok.lit _ _ h)
  cases w with
  | take x w =>
      refine Sh.tup fun d hd => ?_
      simp at hd
      rcases hd with rfl | rfl | rfl
      · exact s0 (by decide)
      · exact s1 ok.1
      · exact s1 ok.2
  | ask x =>
      refine Sh.tup fun d hd => ?_
      simp at hd
      rcases hd with rfl | rfl
      · exact s0 (by decide)
      · exact s1 ok
  | number x n =>
      refine Sh.tup fun d hd => ?_
      simp at hd
      rcases hd with rfl | rfl | rfl
      · exact s0 (by decide)
      · exact s1 ok
      · exact Sh.int
  | copy x y =>
      refine Sh.tup fun d hd => ?_
      simp at hd
      rcases hd with rfl | rfl | rfl
      · exact s0 (by decide)
      · exact s1 ok.1
      · exact s1 ok.2
  | mix x y z =>
      refine Sh.tup fun d hd => ?_
      simp at hd
      rcases hd with rfl | rfl | rfl | rfl
      · exact s0 (by decide)
      · exact s1 ok.1
      · exact s1 ok.2.1
      · exact s1 ok.2.2
  | opn x y =>
      refine Sh.tup fun d hd => ?_
      simp at hd
      rcases hd with rfl | rfl | rfl
      · exact s0 (by decide)
      · exact s1 ok.1
      · exact s1 ok.2
  | tell x =>
      refine Sh.tup fun d hd => ?_
      simp at hd
      rcases hd with rfl | rfl
      · exact s0 (by decide)
      · exact s1 ok
  | wipe x =>
      refine Sh.tup fun d hd => ?_
      simp at hd
      rcases hd with rfl | rfl
      · exact s0 (by decide)
      · exact s1 ok
  | clear n =>
      refine Sh.tup fun d hd => ?_
      simp at hd
      rcases hd with rfl | rfl
      · exact s0 (by decide)
      · exact Sh.str ok
  | drop xs =>
      refine Sh.tup fun d hd => ?_
      simp at hd
      rcases hd with rfl | rfl
      · exact s0 (by decide)
      · exact Sh.strs (k := 0) fun x hx => ok.1 x hx
theorem sh_nd (hB : ∀ x ∈ Bs, Bxo x) (hds : ∀ e ∈ ds, Ok 10 e.nm) {w : Nd} (h : WfN ds Ws Bs d l w) : Sh (3 * d + 2) (encN w) := by
  have s0 : ∀ {x : Str} {k : Nat}, (decide (x.length ≤ 8) && (tl x).all (· < 128)) = true → Sh k (.str x) := fun h => Sh.str (n := 8) (Ok.lit _ _ h)
  induction h with
  | pl h => unfold encN; exact (sh_wd h).mono (by omega)
  | out a b =>
    unfold encN
    exact Sh.tup fun d hd => by
      simp at hd
      rcases hd with rfl | rfl
      · exact s0 (by decide)
      · exact Sh.int
  | risk a =>
    unfold encN
    exact Sh.tup fun d hd => by
      simp at hd
      rcases hd with rfl | rfl
      · exact s0 (by decide)
      · exact Sh.str a
  | fault a =>
    unfold encN
    exact Sh.tup fun d hd => by
      simp at hd
      rcases hd with rfl | rfl
      · exact s0 (by decide)
      · exact Sh.str a
  | back =>
    unfold encN
    exact Sh.tup fun d hd => by
      simp at hd
      subst hd
      exact s0 (by decide)
  | call e a b c d' f g i j k =>
    unfold encN
    exact Sh.tup fun d hd => by
      simp at hd
      rcases hd with rfl | rfl | rfl | rfl
      · exact s0 (by decide)
      · rw [← b]; exact Sh.str (hds e a)
      · exact (Sh.strs (k := 0) fun x hx => (hB x (i x hx)).ok).mono (by omega)
      · exact (Sh.strs (k := 0) fun x hx => (hB x (j x hx)).ok).mono (by omega)
  | @choose d l rs a b c f ih =>
    unfold encN
    refine (Sh.tup (n := 3 * d + 4) fun z hz => ?_).mono (by omega)
    simp at hz
    rcases hz with rfl | rfl
    · exact s0 (by decide)
    · rw [encRs_map]
      refine Sh.tup (n := 3 * d + 3) fun z hz => ?_
      obtain ⟨r, hr, rfl⟩ := List.mem_map.mp hz
      rw [encR_map]
      refine Sh.tup (n := 3 * d + 2) fun z hz => ?_
      obtain ⟨w, hw, rfl⟩ := List.mem_map.mp hz
      exact ih r hr w hw
  | @loop d l r a f ih =>
    unfold encN
    refine (Sh.tup (n := 3 * d + 3) fun z hz => ?_).mono (by omega)
    simp at hz
    rcases hz with rfl | rfl
    · exact s0 (by decide)
    · rw [encR_map]
      refine Sh.tup (n := 3 * d + 2) fun z hz => ?_
      obtain ⟨w, hw, rfl⟩ := List.mem_map.mp hz
      exact ih w hw
theorem sh_row (hB : ∀ x ∈ Bs, Bxo x) (hds : ∀ e ∈ ds, Ok 10 e.nm) {r : Rw} (h : ∀ w ∈ r, WfN ds Ws Bs d l w) : Sh (3 * d + 3) (.tuple (encR r)) := by
  rw [encR_map]
  refine Sh.tup fun z hz => ?_
  obtain ⟨w, hw, rfl⟩ := List.mem_map.mp hz
  exact sh_nd hB hds (h w hw)
end
end Ds.K60
namespace Ds.K60
open PySem PySem.Spec PyProof.Rows L2 Dn TL
def d3 (e : Df) : D := .tuple [.str e.nm, .tuple (e.ps.map PyData.str), .tuple (e.rs.map PyData.str)]
def caseD (Bs Ws Fs : List Str) (ld : Nat) (rm : Int) : List (Key × Cl) := [(.inr "boxes", .sh (.list (Bs.map PyData.str))), (.inr "worths", .sh (.list (Ws.map PyData.str))), (.inr "faults", .sh (.list (Fs.map PyData.str))), (.inr "defs", .lo ld), (.inr "room", .sh (.int rm))]
theorem put_room {Bs Ws Fs : List Str} {ld : Nat} {rm rm' : Int} : putC (caseD Bs Ws Fs ld rm) (.inr "room") (.sh (.int rm')) = caseD Bs Ws Fs ld rm' := rfl
/-- the deck, the case, the defs so far -/
structure Cq (bd lc ld : Nat) (Ws Bs Fs : List Str) (ds : List Df) (s : St) : Prop where
  d : Dq bd s
  c : ∃ rm : Int, s[lc]? = some (.dk (caseD Bs Ws Fs ld rm))
  l : s[ld]? = some (.lst ((ds.map d3).map Cl.sh))
  n1 : lc ≠ bd
  n2 : ld ≠ bd
  n3 : ld ≠ lc
def Fr2 (b c : Nat) (s s' : St) : Prop := s.length ≤ s'.length ∧ ∀ j, j < s.length → j ≠ b → j ≠ c → s'[j]? = s[j]?
structure GC (Ws Bs Fs : List Str) (ds : List Df) : Prop where
  b : ∀ x ∈ Bs, Bxo x
  bn : Bs.Nodup
  bl : 3 ≤ Bs.length ∧ Bs.length ≤ 8
  w : ∀ w ∈ Ws, Ok 10 w
  wl : 0 < Ws.length ∧ Ws.length ≤ 6
  f : ∀ x ∈ Fs, Ok 10 x
  fl : 0 < Fs.length ∧ Fs.length ≤ 10
  dl : ds.length ≤ 6
  dp : ∀ e ∈ ds, e.ps.length ≤ 8 ∧ e.rs.length ≤ 8
  dn : ∀ e ∈ ds, Ok 10 e.nm ∧ (∀ x ∈ e.ps, x ∈ Bs) ∧ (∀ x ∈ e.rs, x ∈ Bs)
section
variable {bd lc ld : Nat} {Ws Bs Fs : List Str} {ds : List Df} {s s' s2 : St}
theorem Fr2.refl : Fr2 bd lc s s := ⟨Nat.le_refl _, fun _ _ _ _ => rfl⟩
theorem Fr2.trans (h : Fr2 bd lc s s') (k : Fr2 bd lc s' s2) : Fr2 bd lc s s2 := ⟨Nat.le_trans h.1 k.1, fun j hj a b => (k.2 j (Nat.lt_of_lt_of_le hj h.1) a b).trans (h.2 j hj a b)⟩
theorem Fr2.of (h : Fr bd s s') : Fr2 bd lc s s' := ⟨h.1, fun j hj a _ => h.2 j hj a⟩
theorem Fr2.put {o : Ob} (h : Fr2 bd lc s s') : Fr2 bd lc s (s'.set lc o) := ⟨by simpa using h.1, fun j hj a b => (set_other b).trans (h.2 j hj a b)⟩
theorem Fr2.new {o : Ob} {l : Nat} (h : Fr2 bd lc s s') (hl : s.length ≤ l) : Fr2 bd lc s (s'.set l o) := ⟨by simpa using h.1, fun j hj a b => (set_other (by omega)).trans (h.2 j hj a b)⟩
theorem Fr2.app {o : Ob} (h : Fr2 bd lc s s') : Fr2 bd lc s (s' ++ [o]) := ⟨by have := h.1; simp; omega, fun j hj a b => (app_old (Nat.lt_of_lt_of_le hj h.1)).trans (h.2 j hj a b)⟩
theorem Fr2.trim {c : Cl} (h : Fr2 bd lc s s') : Fr2 bd lc s (trim s.length c s') := ⟨trim_ge h.1, fun j hj a b => (trim_get hj).trans (h.2 j hj a b)⟩
theorem Cq.lt (h : Cq bd lc ld Ws Bs Fs ds s) : bd < s.length ∧ lc < s.length ∧ ld < s.length := by
  obtain ⟨rm, hc⟩ := h.c
  exact ⟨h.d.lt, lt_of_at hc, lt_of_at h.l⟩
theorem Cq.fr (h : Cq bd lc ld Ws Bs Fs ds s) (F : Fr bd s s') (D : Dq bd s') : Cq bd lc ld Ws Bs Fs ds s' := by
  obtain ⟨rm, hc⟩ := h.c
  exact ⟨D, ⟨rm, F.at_ hc h.n1⟩, F.at_ h.l h.n2, h.n1, h.n2, h.n3⟩
theorem Cq.trim {n : Nat} {c : Cl} (h : Cq bd lc ld Ws Bs Fs ds s) (h1 : bd < n) (h2 : lc < n) (h3 : ld < n) : Cq bd lc ld Ws Bs Fs ds (trim n c s) := by
  obtain ⟨rm, hc⟩ := h.c
  exact ⟨h.d.trim h1, ⟨rm, (trim_get h2).trans hc⟩, (trim_get h3).trans h.l, h.n1, h.n2, h.n3⟩
theorem Cq.put {rm : Int} (h : Cq bd lc ld Ws Bs Fs ds s) : Cq bd lc ld Ws Bs Fs ds (s.set lc (.dk (caseD Bs Ws Fs ld rm))) :=
  ⟨h.d.set (Ne.symm h.n1), ⟨rm, set_same h.lt.2.1⟩, (set_other h.n3).trans h.l, h.n1, h.n2, h.n3⟩
theorem Cq.app {o : Ob} (h : Cq bd lc ld Ws Bs Fs ds s) : Cq bd lc ld Ws Bs Fs ds (s ++ [o]) := by
  obtain ⟨rm, hc⟩ := h.c
  exact ⟨h.d.app, ⟨rm, (app_old h.lt.2.1).trans hc⟩, (app_old h.lt.2.2).trans h.l, h.n1, h.n2, h.n3⟩
theorem Cq.new {o : Ob} {l : Nat} (h : Cq bd lc ld Ws Bs Fs ds s) (h1 : bd ≠ l) (h2 : lc ≠ l) (h3 : ld ≠ l) : Cq bd lc ld Ws Bs Fs ds (s.set l o) := by
  obtain ⟨rm, hc⟩ := h.c
  exact ⟨h.d.set h1, ⟨rm, (set_other h2).trans hc⟩, (set_other h3).trans h.l, h.n1, h.n2, h.n3⟩
end
def ldR (r : Nat → Fn) : M Fl := (mRet (mSh (mTup [(mSh (mC (PyData.str "risk"))), (mSh (mD (mCall f__law_one_of [(mLo (mLV 0)), (mSh (mD (mDGet (mLV 1) (mC (PyData.str "faults")))))])))])))
def ldU (r : Nat → Fn) : M Fl := (mSeq (mIfS (mTest (mBin dGt (mVar 2) (mC (PyData.int 0)))) (mSeq (mSet 9 (mSh (mBin dAdd (mC (PyData.int 1)) (mD (mCall f__law_some [(mLo (mLV 0)), (mSh (mC (PyData.int 1))), (mSh (mC (PyData.int 3)))])))))
  (mRet (mSh (mTup [(mSh (mC (PyData.str "choose"))), (mSh (mCallB bTuple [(mSh (mFr (mComp (mRng1 (mVar 9)) [13] (mgName 13) mYes (mD (mCall (r 1) [(mLo (mLV 0)), (mLo (mLV 1)), (mSh (mBin dSub (mVar 2) (mC (PyData.int 1)))), (mSh (mVar 3)), (mSh (mC (PyData.int 2)))])))))]))])))) mNx) (ldR r))
def ldT (r : Nat → Fn) : M Fl := (mSeq (mIfS (mAndT (mTest (mBin dEq (mVar 4) (mC (PyData.int 7)))) (mTest (mBin dGt (mVar 2) (mC (PyData.int 0))))) (mSeq (mSet 7 (mSh (mD (mCall (r 1) [(mLo (mLV 0)), (mLo (mLV 1)), (mSh (mBin dSub (mVar 2) (mC (PyData.int 1)))), (mSh (mBin dAdd (mVar 3) (mC (PyData.int 1)))), (mSh (mC (PyData.int 3)))]))))
  (mSeq (mSet 8 (mSh (mCallB bInt [(mSh (mAndV (mBin dGt (mD (mCall f__law_draw [(mLo (mLV 0)), (mSh (mC (PyData.int 3)))])) (mC (PyData.int 0))) (mBin dGt (mD (mDGet (mLV 1) (mC (PyData.str "room")))) (mC (PyData.int 0)))))])))
  (mSeq (mDPut (mLV 1) (mC (PyData.str "room")) (mSh (mBin dSub (mD (mDGet (mLV 1) (mC (PyData.str "room")))) (mVar 8))))
  (mRet (mSh (mTup [(mSh (mC (PyData.str "loop"))), (mSh (mBin dAdd (mVar 7) (mBin dMulO (mTup [(mSh (mTup [(mSh (mC (PyData.str "out"))), (mSh (mC (PyData.int 1)))]))]) (mVar 8))))])))))) mNx) (ldU r))
def ldD (r : Nat → Fn) : M Fl := (mSeq (mIfS (mAndT (mTest (mBin dLt (mVar 4) (mC (PyData.int 7)))) (mTest (mBinC dNe (mLo (mL (mDGet (mLV 1) (mC (PyData.str "defs"))))) (mSh (mLst []))))) (mSeq (mAsg (mgTup 3 (mgCons (mgName 10) (mgCons (mgName 11) (mgCons (mgName 12) mgNil)))) (mSh (mD (mCall f__law_one_of [(mLo (mLV 0)), (mLo (mL (mDGet (mLV 1) (mC (PyData.str "defs")))))]))))
  (mSeq (mSet 5 (mSh (mD (mCall f__law_picked [(mLo (mLV 0)), (mSh (mD (mDGet (mLV 1) (mC (PyData.str "boxes"))))), (mSh (mCallB bLen [(mSh (mVar 11))]))]))))
  (mSeq (mSet 6 (mSh (mD (mCall f__law_picked [(mLo (mLV 0)), (mSh (mD (mDGet (mLV 1) (mC (PyData.str "boxes"))))), (mSh (mCallB bLen [(mSh (mVar 12))]))]))))
  (mIfS (mAndT (mTest (mBin dEq (mCallB bLen [(mSh (mVar 5))]) (mCallB bLen [(mSh (mVar 11))]))) (mTest (mBin dEq (mCallB bLen [(mSh (mVar 6))]) (mCallB bLen [(mSh (mVar 12))])))) (mRet (mSh (mTup [(mSh (mC (PyData.str "call"))), (mSh (mVar 10)), (mSh (mVar 5)), (mSh (mVar 6))]))) mNx)))) mNx) (ldT r))
def ldB (r : Nat → Fn) : M Fl := (mSeq (mIfS (mAndT (mTest (mBin dEq (mVar 4) (mC (PyData.int 2)))) (mTest (mBin dEq (mD (mCall f__law_draw [(mLo (mLV 0)), (mSh (mC (PyData.int 4)))])) (mC (PyData.int 0))))) (mRet (mSh (mTup [(mSh (mC (PyData.str "back")))]))) mNx) (ldD r))
def ldA (r : Nat → Fn) : M Fl := (mSeq (mIfS (mTest (mBin dEq (mVar 4) (mC (PyData.int 1)))) (mRet (mSh (mTup [(mSh (mBin dIx (mLst [(mSh (mC (PyData.str "risk"))), (mSh (mC (PyData.str "risk"))), (mSh (mC (PyData.str "risk"))), (mSh (mC (PyData.str "fault")))]) (mD (mCall f__law_draw [(mLo (mLV 0)), (mSh (mC (PyData.int 4)))])))), (mSh (mD (mCall f__law_one_of [(mLo (mLV 0)), (mSh (mD (mDGet (mLV 1) (mC (PyData.str "faults")))))])))]))) mNx) (ldB r))
def ldZ (r : Nat → Fn) : M Fl := (mSeq (mSet 4 (mSh (mD (mCall f__law_draw [(mLo (mLV 0)), (mSh (mC (PyData.int 10)))])))) (mSeq (mIfS (mAndT (mTest (mBin dEq (mVar 4) (mC (PyData.int 0)))) (mTest (mBin dGt (mVar 3) (mC (PyData.int 0))))) (mRet (mSh (mTup [(mSh (mC (PyData.str "out"))), (mSh (mBin dAdd (mC (PyData.int 1)) (mD (mCall f__law_draw [(mLo (mLV 0)), (mSh (mVar 3))]))))]))) mNx) (ldA r)))
theorem ld_eq (r : Nat → Fn) : m__law_leading r = ldZ r := rfl
/-- what grown gives -/
def PG (bd lc ld : Nat) (Ws Bs Fs : List Str) (ds : List Df) (k d : Nat) : Prop := ∀ (l m : Nat) (s : St) (Q : Cl → St → Prop), l + d ≤ 9 → m ≤ 10 → Cq bd lc ld Ws Bs Fs ds s → (∀ r s', WfR ds Ws Bs d l r → r.length ≤ 2 * m → Cq bd lc ld Ws Bs Fs ds s' → Fr2 bd lc s s' → Q (.sh (.tuple (encR r))) s') → FRun (f_G22 k 1) [.lo bd, .lo lc, .sh (.int d), .sh (.int l), .sh (.int m)] s Q
/-- what leading gives -/
def PL (bd lc ld : Nat) (Ws Bs Fs : List Str) (ds : List Df) (k d : Nat) : Prop := ∀ (l : Nat) (s : St) (Q : Cl → St → Prop), l + d ≤ 9 → Cq bd lc ld Ws Bs Fs ds s → (∀ w s', WfN ds Ws Bs d l w → Cq bd lc ld Ws Bs Fs ds s' → Fr2 bd lc s s' → Q (.sh (encN w)) s') → FRun (f_G22 k 0) [.lo bd, .lo lc, .sh (.int d), .sh (.int l)] s Q
end Ds.K60
namespace Ds.K60
open PySem PySem.Spec PyProof.Rows L2 Dn TL
section
variable {bd lc ld : Nat} {Ws Bs Fs : List Str} {ds : List Df} {s : St} {d l : Nat} {R : Fl → Ev → St → Prop} {kk : Nat}
theorem one_lo {xs : List D} {s : St} {Q : Cl → St → Prop} (S : Dq bd s) (hl : s[ld]? = some (.lst (xs.map Cl.sh))) (hx : 0 < xs.length ∧ xs.length ≤ 100) (hn : ld ≠ bd) (h : ∀ (d : D) (s' : St), d ∈ xs → Dq bd s' → Fr bd s s' → Q (.sh d) s') : FRun f__law_one_of [.lo bd, .lo ld] s Q := by
  refine frun_fn rfl ?_
  unfold m__law_one_of
  repeat walk_at "ds"
  refine ⟨_, by unfold snaps; rw [snap_list hl]; rfl, ?_⟩
  repeat walk_at "ds"
  refine draw S (by omega) fun n1 s1 a1 b1 S1 F1 => ?_
  repeat walk_at "ds"
  have hl1 := F1.at_ hl hn
  obtain ⟨j, rfl⟩ := Int.eq_ofNat_of_zero_le a1
  have hj : j < xs.length := by omega
  refine ⟨.sh xs[j], ixC_lo hl1 ?_, ?_⟩
  · unfold atI ixN
    rw [List.length_map, if_pos (by omega), if_pos (by omega)]
    simp [hj]
  repeat walk_at "ds"
  exact h _ _ (List.getElem_mem hj) (S1.trim S.lt) F1.trim
theorem ldR_ {e5 : List Cl} {r : Nat → Fn} (C : Cq bd lc ld Ws Bs Fs ds s) (G : GC Ws Bs Fs ds) (q : ∀ w s' e', WfN ds Ws Bs d l w → Cq bd lc ld Ws Bs Fs ds s' → Fr2 bd lc s s' → R (.rt (.sh (encN w))) e' s') : Run (ldR r) (.lo bd :: .lo lc :: e5) s R := by
  obtain ⟨rm, hc⟩ := C.c
  unfold ldR
  repeat walk_at "ds"
  refine ⟨_, .inr "faults", _, hc, rfl, rfl, ?_⟩
  repeat walk_at "ds"
  have gf := G.fl
  refine one_of C.d (by rw [List.length_map]; omega) fun d1 s1 hd D1 F1 => ?_
  obtain ⟨x, hx, rfl⟩ := List.mem_map.mp hd
  repeat walk_at "ds"
  have := q (.risk x) s1 (.lo bd :: .lo lc :: e5) (.risk (G.f x hx)) (C.fr F1 D1) (Fr2.of F1)
  unfold encN at this
  exact this
end
end Ds.K60
namespace Ds.K60
open PySem PySem.Spec PyProof.Rows L2 Dn TL
theorem rng1_n {n : Nat} (h : n ≤ 1000) : bRng1 (.int (n : Int)) = some (rngD 0 n) := by
  show (if inLine (n : Int) then some (rngD 0 ((n : Int)).toNat) else none) = _
  rw [if_pos (inLine_of (by omega)), Int.toNat_natCast]
theorem enc_row (r : Rw) : encN (.loop r) = .tuple [.str "loop", .tuple (encR r)] := by unfold encN; rfl
theorem enc_ch (rs : List Rw) : encN (.choose rs) = .tuple [.str "choose", .tuple (encRs rs)] := by unfold encN; rfl
theorem enc_out (n : Nat) : encN (.out n) = .tuple [.str "out", .int n] := by unfold encN; rfl
theorem enc_risk (x : Str) : encN (.risk x) = .tuple [.str "risk", .str x] := by unfold encN; rfl
theorem enc_fault (x : Str) : encN (.fault x) = .tuple [.str "fault", .str x] := by unfold encN; rfl
theorem enc_back : encN .back = .tuple [.str "back"] := by unfold encN; rfl
theorem enc_call (f : Str) (as gs : List Str) : encN (.call f as gs) = .tuple [.str "call", .str f, .tuple (as.map PyData.str), .tuple (gs.map PyData.str)] := by unfold encN; rfl
theorem encR_snoc (r : Rw) (w : Nd) : encR (r ++ [w]) = encR r ++ [encN w] := by rw [encR_map, encR_map, List.map_append]; rfl
theorem encRs_snoc (rs : List Rw) (r : Rw) : encRs (rs ++ [r]) = encRs rs ++ [.tuple (encR r)] := by rw [encRs_map, encRs_map, List.map_append]; rfl
end Ds.K60
namespace Ds.K60
open PySem PySem.Spec PyProof.Rows L2 Dn TL
section
variable {bd lc ld : Nat} {Ws Bs Fs : List Str} {ds : List Df} {s : St} {d l : Nat} {R : Fl → Ev → St → Prop} {k : Nat} {z4 : D} {z5 z6 z7 z8 z9 z10 z11 z12 z13 : Cl} {way : Int}
theorem ldU_ (hl : l + d ≤ 9) (hG : ∀ d', d = d' + 1 → PG bd lc ld Ws Bs Fs ds k d') (C : Cq bd lc ld Ws Bs Fs ds s) (G : GC Ws Bs Fs ds) (q : ∀ w s' e', WfN ds Ws Bs d l w → Cq bd lc ld Ws Bs Fs ds s' → Fr2 bd lc s s' → R (.rt (.sh (encN w))) e' s') :
    Run (ldU (f_G22 k)) [.lo bd, .lo lc, .sh (.int d), .sh (.int l), .sh (.int way), z5, z6, z7, z8, z9, z10, z11, z12, .no] s R := by
  unfold ldU
  repeat walk_at "ds"
  refine two_dec (fun hd => ?_) (fun hd => ?_)
  · obtain ⟨d', rfl⟩ : ∃ d', d = d' + 1 := ⟨d - 1, by omega⟩
    repeat walk_at "ds"
    refine some__ C.d (by decide) fun v s1 hv D1 F1 => ?_
    have C1 := C.fr F1 D1
    obtain ⟨m, rfl⟩ := Int.eq_ofNat_of_zero_le (show 0 ≤ v by omega)
    have hm : m ≤ 3 := by omega
    iterate 18 walk_at "ds"
    have e1 : (1 + (m : Int)) = ((1 + m : Nat) : Int) := by omega
    rw [e1]
    refine ⟨_, rng1_n (by omega), ?_⟩
    refine ⟨by rw [rngD_length]; exact line_of (by omega), ?_⟩
    refine run_compL _ (fun i ys e s' => ∃ rs : List Rw, ys = encRs rs ∧ rs.length = i ∧ (∀ r ∈ rs, WfR ds Ws Bs d' l r) ∧ Cq bd lc ld Ws Bs Fs ds s' ∧ Fr2 bd lc s s' ∧ e = [.lo bd, .lo lc, .sh (.int ((d' + 1 : Nat) : Int)), .sh (.int l), .sh (.int way), z5, z6, z7, z8, .sh (.int ((1 + m : Nat) : Int)), z10, z11, z12, .no]) ⟨[], rfl, rfl, (fun _ h => nomatch h), C1, Fr2.of F1, rfl⟩ (fun i x ys e s' hx hJ => ?_) fun ys e s' hJ => ?_
    · obtain ⟨rs, rfl, f1, f2, C2, F2, rfl⟩ := hJ
      refine ⟨_, rfl, ?_⟩
      repeat walk_at "ds"
      have e2 : (((d' + 1 : Nat) : Int) - 1) = (d' : Int) := by omega
      rw [e2]
      refine hG d' rfl l 2 s' _ (by omega) (by decide) C2 fun r s3 W _ C3 F3 => ?_
      repeat walk_at "ds"
      refine ⟨rs ++ [r], (encRs_snoc rs r).symm, by simp [f1], fun r' hr' => ?_, C3, F2.trans F3, rfl⟩
      rcases List.mem_append.mp hr' with h | h
      · exact f2 r' h
      · rw [List.mem_singleton] at h; subst h; exact W
    · obtain ⟨rs, rfl, f1, f2, C2, F2, rfl⟩ := hJ
      rw [rngD_length] at f1
      refine ⟨_, shL_map _, ?_⟩
      repeat walk_at "ds"
      have := fun e' => q (.choose rs) s' e' (.choose (by omega) (by omega) (fun r hr => (f2 r hr).1) fun r hr => (f2 r hr).2) C2 F2
      rw [enc_ch] at this
      exact this _
  · repeat walk_at "ds"
    exact ldR_ C G q
theorem ldT_ (hl : l + d ≤ 9) (hG : ∀ d', d = d' + 1 → PG bd lc ld Ws Bs Fs ds k d') (C : Cq bd lc ld Ws Bs Fs ds s) (G : GC Ws Bs Fs ds) (q : ∀ w s' e', WfN ds Ws Bs d l w → Cq bd lc ld Ws Bs Fs ds s' → Fr2 bd lc s s' → R (.rt (.sh (encN w))) e' s') :
    Run (ldT (f_G22 k)) [.lo bd, .lo lc, .sh (.int d), .sh (.int l), .sh (.int way), z5, z6, z7, z8, z9, z10, z11, z12, .no] s R := by
  unfold ldT
  repeat walk_at "ds"
  refine two_dec (fun hw => ?_) (fun hw => ?_)
  · repeat walk_at "ds"
    refine two_dec (fun hd => ?_) (fun hd => ?_)
    · obtain ⟨d', rfl⟩ : ∃ d', d = d' + 1 := ⟨d - 1, by omega⟩
      repeat walk_at "ds"
      have e2 : (((d' + 1 : Nat) : Int) - 1) = (d' : Int) := by omega
      have e3 : ((l : Int) + 1) = ((l + 1 : Nat) : Int) := by omega
      rw [e2, e3]
      refine hG d' rfl (l + 1) 3 s _ (by omega) (by decide) C fun r s1 W hrl C1 F1 => ?_
      repeat walk_at "ds"
      refine draw C1.d (by omega) fun n1 s2 a1 b1 D2 F2 => ?_
      have C2 := C1.fr F2 D2
      have F3 := F1.trans (Fr2.of F2)
      obtain ⟨rm, hc⟩ := C2.c
      repeat walk_at "ds"
      refine two_dec (fun h0 => ?_) (fun h0 => ?_)
      · repeat walk_at "ds"
        refine ⟨_, .inr "room", _, hc, rfl, rfl, ?_⟩
        repeat walk_at "ds"
        by_cases h1 : 0 < rm
        · rw [decide_eq_true h1]
          repeat walk_at "ds"
          refine ⟨_, .inr "room", _, hc, rfl, rfl, ?_⟩
          repeat walk_at "ds"
          refine ⟨_, .inr "room", hc, rfl, by show 5 < 16777216; decide, ?_⟩
          rw [put_room]
          have C4 := C2.put (rm := rm - (if true = true then 1 else 0))
          have F4 := F3.put (o := .dk (caseD Bs Ws Fs ld (rm - (if true = true then 1 else 0))))
          generalize s2.set lc (.dk (caseD Bs Ws Fs ld (rm - (if true = true then 1 else 0)))) = s4 at C4 F4 ⊢
          repeat walk_at "ds"
          refine bx_add_tup (line_of (by rw [encR_len]; simp; omega)) ?_
          repeat walk_at "ds"
          have hb := fun e' => q (.loop (r ++ [.out 1])) s4 e' (.loop (by rw [List.length_append]; simp; omega) fun w hw => (List.mem_append.mp hw).elim (W.2 w) fun h => by rw [List.mem_singleton] at h; subst h; exact .out (Nat.le_refl 1) (by omega)) C4 F4
          rw [enc_row, encR_snoc, enc_out] at hb
          exact hb _
        · rw [decide_eq_false h1]
          repeat walk_at "ds"
          refine ⟨_, .inr "room", _, hc, rfl, rfl, ?_⟩
          repeat walk_at "ds"
          refine ⟨_, .inr "room", hc, rfl, by show 5 < 16777216; decide, ?_⟩
          rw [put_room]
          have C4 := C2.put (rm := rm - (if false = true then 1 else 0))
          have F4 := F3.put (o := .dk (caseD Bs Ws Fs ld (rm - (if false = true then 1 else 0))))
          generalize s2.set lc (.dk (caseD Bs Ws Fs ld (rm - (if false = true then 1 else 0)))) = s4 at C4 F4 ⊢
          repeat walk_at "ds"
          refine bx_add_tup (line_of (by rw [encR_len]; simp; omega)) ?_
          repeat walk_at "ds"
          have hb := fun e' => q (.loop r) s4 e' (.loop (by omega) W.2) C4 F4
          rw [enc_row] at hb
          rw [List.append_nil]
          exact hb _
      · repeat walk_at "ds"
        refine ⟨_, .inr "room", _, hc, rfl, rfl, ?_⟩
        repeat walk_at "ds"
        refine ⟨_, .inr "room", hc, rfl, by show 5 < 16777216; decide, ?_⟩
        rw [put_room]
        have C4 := C2.put (rm := rm - (if false = true then 1 else 0))
        have F4 := F3.put (o := .dk (caseD Bs Ws Fs ld (rm - (if false = true then 1 else 0))))
        generalize s2.set lc (.dk (caseD Bs Ws Fs ld (rm - (if false = true then 1 else 0)))) = s4 at C4 F4 ⊢
        repeat walk_at "ds"
        refine bx_add_tup (line_of (by rw [encR_len]; simp; omega)) ?_
        repeat walk_at "ds"
        have hb := fun e' => q (.loop r) s4 e' (.loop (by omega) W.2) C4 F4
        rw [enc_row] at hb
        rw [List.append_nil]
        exact hb _
    · repeat walk_at "ds"
      exact ldU_ (by omega) hG C G q
  · repeat walk_at "ds"
    exact ldU_ (by omega) hG C G q
theorem ldD_ (hl : l + d ≤ 9) (hG : ∀ d', d = d' + 1 → PG bd lc ld Ws Bs Fs ds k d') (C : Cq bd lc ld Ws Bs Fs ds s) (G : GC Ws Bs Fs ds) (q : ∀ w s' e', WfN ds Ws Bs d l w → Cq bd lc ld Ws Bs Fs ds s' → Fr2 bd lc s s' → R (.rt (.sh (encN w))) e' s') :
    Run (ldD (f_G22 k)) [.lo bd, .lo lc, .sh (.int d), .sh (.int l), .sh (.int way), z5, z6, z7, z8, z9, z10, z11, z12, .no] s R := by
  unfold ldD
  repeat walk_at "ds"
  refine two_dec (fun hw => ?_) (fun hw => ?_)
  · obtain ⟨rm, hc⟩ := C.c
    repeat walk_at "ds"
    refine ⟨_, .inr "defs", _, hc, rfl, rfl, ?_⟩
    repeat walk_at "ds"
    refine ⟨_, _, snap_list C.l, rfl, ?_⟩
    have shd : Sh 3 (.list (ds.map d3)) := Sh.lst fun z hz => by
      obtain ⟨e, he, rfl⟩ := List.mem_map.mp hz
      obtain ⟨o1, o2, o3⟩ := G.dn e he
      refine Sh.tup fun z hz => ?_
      simp at hz
      rcases hz with rfl | rfl | rfl
      · exact Sh.str o1
      · exact Sh.strs fun x hx => (G.b x (o2 x hx)).ok
      · exact Sh.strs fun x hx => (G.b x (o3 x hx)).ok
    refine bx_ne (.inl rfl) shd.ok rfl ?_
    have ee : PyData.eqv (.list (ds.map d3)) (.list []) = ds.isEmpty := by cases ds <;> simp [PyData.eqv, PyData.eqvAll]
    rw [ee]
    cases hde : ds with
    | nil =>
      repeat walk_at "ds"
      exact ldT_ hl hG C G q
    | cons d0 dr =>
      have hdl : 0 < (ds.map d3).length ∧ (ds.map d3).length ≤ 100 := by
        have := G.dl
        rw [List.length_map, hde] at *
        simp at *
        omega
      rw [show (d0 :: dr).isEmpty = false from rfl]
      repeat walk_at "ds"
      refine ⟨_, .inr "defs", _, hc, rfl, rfl, ?_⟩
      repeat walk_at "ds"
      refine one_lo C.d C.l hdl C.n2 fun z s1 hz D1 F1 => ?_
      obtain ⟨e, he, rfl⟩ := List.mem_map.mp hz
      have C1 := C.fr F1 D1
      obtain ⟨rm1, hc1⟩ := C1.c
      obtain ⟨p1, p2⟩ := G.dp e he
      unfold d3
      repeat walk_at "ds"
      refine ⟨_, .inr "boxes", _, hc1, rfl, rfl, ?_⟩
      repeat walk_at "ds"
      refine picked_ C1.d G.bn G.bl.2 (by rw [List.length_map]; omega) fun as s2 h1 h2 h3 D2 F2 => ?_
      have C2 := C1.fr F2 D2
      obtain ⟨rm2, hc2⟩ := C2.c
      repeat walk_at "ds"
      refine ⟨_, .inr "boxes", _, hc2, rfl, rfl, ?_⟩
      repeat walk_at "ds"
      refine picked_ C2.d G.bn G.bl.2 (by rw [List.length_map]; omega) fun gs s3 k1 k2 k3 D3 F3 => ?_
      have C3 := C2.fr F3 D3
      have F4 : Fr2 bd lc s s3 := Fr2.of (F1.trans (F2.trans F3))
      have q3 : ∀ w s' e', WfN ds Ws Bs d l w → Cq bd lc ld Ws Bs Fs ds s' → Fr2 bd lc s3 s' → R (.rt (.sh (encN w))) e' s' := fun w s' e' a b c => q w s' e' a b (F4.trans c)
      repeat walk_at "ds"
      refine two_dec (fun m1 => ?_) (fun m1 => ?_)
      · repeat walk_at "ds"
        refine two_dec (fun m2 => ?_) (fun m2 => ?_)
        · rw [List.length_map, List.length_map] at m1 m2
          have hb := fun e' => q3 (.call e.nm as gs) s3 e' (.call e he rfl (by omega) (by omega) h3 k3 h1 k1 h2) C3 Fr2.refl
          rw [enc_call] at hb
          repeat walk_at "ds"
          exact hb _
        · repeat walk_at "ds"
          exact ldT_ hl hG C3 G q3
      · repeat walk_at "ds"
        exact ldT_ hl hG C3 G q3
  · repeat walk_at "ds"
    exact ldT_ hl hG C G q
theorem ldB_ (hl : l + d ≤ 9) (hG : ∀ d', d = d' + 1 → PG bd lc ld Ws Bs Fs ds k d') (C : Cq bd lc ld Ws Bs Fs ds s) (G : GC Ws Bs Fs ds) (q : ∀ w s' e', WfN ds Ws Bs d l w → Cq bd lc ld Ws Bs Fs ds s' → Fr2 bd lc s s' → R (.rt (.sh (encN w))) e' s') :
    Run (ldB (f_G22 k)) [.lo bd, .lo lc, .sh (.int d), .sh (.int l), .sh (.int way), z5, z6, z7, z8, z9, z10, z11, z12, .no] s R := by
  unfold ldB
  repeat walk_at "ds"
  refine two_dec (fun hw => ?_) (fun hw => ?_)
  · repeat walk_at "ds"
    refine draw C.d (by omega) fun n1 s1 a1 b1 D1 F1 => ?_
    have C1 := C.fr F1 D1
    have q1 : ∀ w s' e', WfN ds Ws Bs d l w → Cq bd lc ld Ws Bs Fs ds s' → Fr2 bd lc s1 s' → R (.rt (.sh (encN w))) e' s' := fun w s' e' a b c => q w s' e' a b ((Fr2.of F1).trans c)
    repeat walk_at "ds"
    refine two_dec (fun h0 => ?_) (fun h0 => ?_)
    · repeat walk_at "ds"
      have hb := fun e' => q1 .back s1 e' .back C1 Fr2.refl
      rw [enc_back] at hb
      exact hb _
    · repeat walk_at "ds"
      exact ldD_ hl hG C1 G q1
  · repeat walk_at "ds"
    exact ldD_ hl hG C G q
theorem ldA_ (hl : l + d ≤ 9) (hG : ∀ d', d = d' + 1 → PG bd lc ld Ws Bs Fs ds k d') (C : Cq bd lc ld Ws Bs Fs ds s) (G : GC Ws Bs Fs ds) (q : ∀ w s' e', WfN ds Ws Bs d l w → Cq bd lc ld Ws Bs Fs ds s' → Fr2 bd lc s s' → R (.rt (.sh (encN w))) e' s') :
    Run (ldA (f_G22 k)) [.lo bd, .lo lc, .sh (.int d), .sh (.int l), .sh (.int way), z5, z6, z7, z8, z9, z10, z11, z12, .no] s R := by
  unfold ldA
  repeat walk_at "ds"
  refine two_dec (fun hw => ?_) (fun hw => ?_)
  · repeat walk_at "ds"
    refine draw C.d (by omega) fun n1 s1 a1 b1 D1 F1 => ?_
    have C1 := C.fr F1 D1
    obtain ⟨rm1, hc1⟩ := C1.c
    repeat walk_at "ds"
    refine bx_ix_in a1 (by simp; omega) fun z hz => ?_
    have hz : z ∈ [PyData.str "risk", .str "risk", .str "risk", .str "fault"] := hz
    repeat walk_at "ds"
    refine ⟨_, .inr "faults", _, hc1, rfl, rfl, ?_⟩
    repeat walk_at "ds"
    have gf := G.fl
    refine one_of C1.d (by rw [List.length_map]; omega) fun d1 s2 hd D2 F2 => ?_
    obtain ⟨x, hx, rfl⟩ := List.mem_map.mp hd
    have C2 := C1.fr F2 D2
    have F3 : Fr2 bd lc s s2 := Fr2.of (F1.trans F2)
    have hr := fun e' => q (.risk x) s2 e' (.risk (G.f x hx)) C2 F3
    have hf := fun e' => q (.fault x) s2 e' (.fault (G.f x hx)) C2 F3
    rw [enc_risk] at hr
    rw [enc_fault] at hf
    repeat walk_at "ds"
    simp only [List.mem_cons, List.not_mem_nil, or_false] at hz
    rcases hz with rfl | rfl | rfl | rfl
    · exact hr _
    · exact hr _
    · exact hr _
    · exact hf _
  · repeat walk_at "ds"
    exact ldB_ hl hG C G q
theorem leading_ (hG : ∀ d', d = d' + 1 → PG bd lc ld Ws Bs Fs ds k d') (G : GC Ws Bs Fs ds) : PL bd lc ld Ws Bs Fs ds (k + 1) d := fun l s Q hl C q => by
  obtain ⟨l1, l2, l3⟩ := C.lt
  show FRun (fnF 4 14 (m__law_leading (f_G22 k))) _ _ _
  refine frun_fn rfl ?_
  rw [ld_eq]
  unfold ldZ
  repeat walk_at "ds"
  refine draw C.d (by omega) fun way s1 a1 b1 D1 F1 => ?_
  have C1 := C.fr F1 D1
  have fin : ∀ w s' (e' : Ev), WfN ds Ws Bs d l w → Cq bd lc ld Ws Bs Fs ds s' → Fr2 bd lc s1 s' → (Fl.rt (Cl.sh (encN w)) = Fl.nx → Q (.sh .none) (trim s.length (.sh .none) s')) ∧ (∀ c, Fl.rt (Cl.sh (encN w)) = Fl.rt c → Q c (trim s.length c s')) ∧ Fl.rt (Cl.sh (encN w)) ≠ .bk ∧ Fl.rt (Cl.sh (encN w)) ≠ .ct := fun w s' e' W C' F' =>
    ⟨(fun h => nomatch h), fun c h => by cases h; exact q w _ W (C'.trim l1 l2 l3) ((Fr2.of F1).trans F').trim, (fun h => nomatch h), fun h => nomatch h⟩
  repeat walk_at "ds"
  refine two_dec (fun hw => ?_) (fun hw => ?_)
  · repeat walk_at "ds"
    refine two_dec (fun h0 => ?_) (fun h0 => ?_)
    · repeat walk_at "ds"
      refine draw C1.d (by omega) fun n1 s2 a2 b2 D2 F2 => ?_
      have C2 := C1.fr F2 D2
      obtain ⟨n, rfl⟩ := Int.eq_ofNat_of_zero_le a2
      have hb := q (.out (1 + n)) (trim s.length (.sh (encN (.out (1 + n)))) s2) (.out (by omega) (by omega)) (C2.trim l1 l2 l3) (Fr2.of (F1.trans F2)).trim
      rw [enc_out] at hb
      have e1 : ((1 + n : Nat) : Int) = 1 + (n : Int) := by omega
      rw [e1] at hb
      repeat walk_at "ds"
      exact hb
    · repeat walk_at "ds"
      exact RunX.lift (ldA_ hl hG C1 G fin)
  · repeat walk_at "ds"
    exact RunX.lift (ldA_ hl hG C1 G fin)
end
end Ds.K60
namespace Ds.K60
open PySem PySem.Spec PyProof.Rows L2 Dn TL
def nmW : Wd → Str
  | .take _ _ => "take"
  | .ask _ => "ask"
  | .number _ _ => "number"
  | .copy _ _ => "copy"
  | .mix _ _ _ => "mix"
  | .opn _ _ => "open"
  | .tell _ => "tell"
  | .wipe _ => "wipe"
  | .clear _ => "clear"
  | .drop _ => "drop"
def kwN : Nd → Str
  | .pl v => nmW v
  | .choose _ => "choose"
  | .loop _ => "loop"
  | .out _ => "out"
  | .risk _ => "risk"
  | .fault _ => "fault"
  | .back => "back"
  | .call _ _ _ => "call"
theorem kw0 (w : Nd) : dIx (encN w) (.int 0) = some (.str (kwN w)) := by
  cases w with
  | pl v => unfold encN; cases v <;> rfl
  | _ => unfold encN; rfl
theorem in_strs {k : Str} {ks : List Str} : inD (.str k) (ks.map PyData.str) = decide (k ∈ ks) := by
  unfold inD
  rw [List.any_map, Bool.eq_iff_iff, List.any_eq_true, decide_eq_true_iff]
  constructor
  · rintro ⟨x, hx, h⟩
    have h : PyData.eqv (.str x) (.str k) = true := h
    have e : x = k := by simpa [PyData.eqv] using h
    exact e ▸ hx
  · intro h
    exact ⟨k, h, by show PyData.eqv (.str k) (.str k) = true; simp [PyData.eqv]⟩
theorem flat_strs {ks : List Str} : (ks.map PyData.str).all flatD = true := by
  rw [List.all_map, List.all_eq_true]
  exact fun _ _ => rfl
theorem two_in {k : Str} (ks : List Str) {A B : Prop} (h1 : k ∈ ks → A) (h2 : k ∉ ks → B) : (inD (.str k) (ks.map PyData.str) = true → A) ∧ (inD (.str k) (ks.map PyData.str) = false → B) := by
  rw [in_strs]
  exact ⟨fun h => h1 (of_decide_eq_true h), fun h => h2 (of_decide_eq_false h)⟩
section
variable {ds : List Df} {Ws Bs : List Str} {d l : Nat}
/-- the box of a word -/
theorem arg1 {w : Nd} (W : WfN ds Ws Bs d l w) (h : kwN w ∈ (["take", "ask", "number", "copy", "mix", "open", "wipe"] : List Str)) : ∃ x, Ok 50 x ∧ dIx (encN w) (.int 1) = some (.str x) := by
  cases W with
  | pl hw =>
    rename_i v
    unfold encN
    cases v with
    | take x w => exact ⟨x, hw.1, rfl⟩
    | ask x => exact ⟨x, hw, rfl⟩
    | number x n => exact ⟨x, hw, rfl⟩
    | copy x y => exact ⟨x, hw.1, rfl⟩
    | mix x y z => exact ⟨x, hw.1, rfl⟩
    | opn x y => exact ⟨x, hw.1, rfl⟩
    | wipe x => exact ⟨x, hw, rfl⟩
    | tell x => exact absurd (show ("tell" : Str) ∈ _ from h) (by decide)
    | clear x => exact absurd (show ("clear" : Str) ∈ _ from h) (by decide)
    | drop x => exact absurd (show ("drop" : Str) ∈ _ from h) (by decide)
  | choose => exact absurd (show ("choose" : Str) ∈ _ from h) (by decide)
  | loop => exact absurd (show ("loop" : Str) ∈ _ from h) (by decide)
  | out => exact absurd (show ("out" : Str) ∈ _ from h) (by decide)
  | risk => exact absurd (show ("risk" : Str) ∈ _ from h) (by decide)
  | fault => exact absurd (show ("fault" : Str) ∈ _ from h) (by decide)
  | back => exact absurd (show ("back" : Str) ∈ _ from h) (by decide)
  | call => exact absurd (show ("call" : Str) ∈ _ from h) (by decide)
theorem argC {w : Nd} (W : WfN ds Ws Bs d l w) (h : kwN w = "clear") : ∃ x, Ok 20 x ∧ dIx (encN w) (.int 1) = some (.str x) := by
  cases W with
  | pl hw =>
    rename_i v
    unfold encN
    cases v with
    | clear x => exact ⟨x, hw, rfl⟩
    | take x w => exact absurd (show ("take" : Str) = "clear" from h) (by decide)
    | ask x => exact absurd (show ("ask" : Str) = "clear" from h) (by decide)
    | number x n => exact absurd (show ("number" : Str) = "clear" from h) (by decide)
    | copy x y => exact absurd (show ("copy" : Str) = "clear" from h) (by decide)
    | mix x y z => exact absurd (show ("mix" : Str) = "clear" from h) (by decide)
    | opn x y => exact absurd (show ("open" : Str) = "clear" from h) (by decide)
    | tell x => exact absurd (show ("tell" : Str) = "clear" from h) (by decide)
    | wipe x => exact absurd (show ("wipe" : Str) = "clear" from h) (by decide)
    | drop x => exact absurd (show ("drop" : Str) = "clear" from h) (by decide)
  | choose => exact absurd (show ("choose" : Str) = "clear" from h) (by decide)
  | loop => exact absurd (show ("loop" : Str) = "clear" from h) (by decide)
  | out => exact absurd (show ("out" : Str) = "clear" from h) (by decide)
  | risk => exact absurd (show ("risk" : Str) = "clear" from h) (by decide)
  | fault => exact absurd (show ("fault" : Str) = "clear" from h) (by decide)
  | back => exact absurd (show ("back" : Str) = "clear" from h) (by decide)
  | call => exact absurd (show ("call" : Str) = "clear" from h) (by decide)
end
def drD : M Fl := (mSeq (mIfS (mTest (mBin dEq (mVar 3) (mC (PyData.int 0)))) (mRet (mSh (mLst [(mSh (mVar 2)), (mSh (mTup [(mSh (mC (PyData.str "copy"))), (mSh (mVar 4)), (mSh (mVar 4))]))]))) mNx)
  (mSeq (mIfS (mTest (mBin dEq (mVar 3) (mC (PyData.int 3)))) (mRet (mSh (mLst [(mSh (mVar 2)), (mSh (mBin dIx (mLst [(mSh (mTup [(mSh (mC (PyData.str "copy"))), (mSh (mVar 4)), (mSh (mD (mCall f__law_one_of [(mLo (mLV 0)), (mSh (mVar 1))])))])), (mSh (mTup [(mSh (mC (PyData.str "number"))), (mSh (mVar 4)), (mSh (mVar 5))]))]) (mBin dMod (mVar 5) (mC (PyData.int 2)))))]))) mNx)
  (mRet (mSh (mLst [(mSh (mVar 2))])))))
def drC : M Fl := (mSeq (mIfS (mAndT (mTest (mBin dGt (mVar 3) (mC (PyData.int 4)))) (mTest (mBin dIn (mBin dIx (mVar 2) (mC (PyData.int 0))) (mTup [(mSh (mC (PyData.str "wipe"))), (mSh (mC (PyData.str "clear")))])))) (mRet (mSh (mLst [(mSh (mVar 2)), (mSh (mVar 2))]))) mNx) drD)
def drB : M Fl := (mSeq (mIfS (mAndT (mTest (mBin dEq (mVar 3) (mC (PyData.int 2)))) (mTest (mBin dEq (mBin dIx (mVar 2) (mC (PyData.int 0))) (mC (PyData.str "clear"))))) (mRet (mSh (mLst [(mSh (mTup [(mSh (mC (PyData.str "copy"))), (mSh (mBin dIx (mLst [(mSh (mVar 4)), (mSh (mBin dAdd (mBin dAdd (mBin dIx (mVar 2) (mC (PyData.int 1))) (mC (PyData.str "."))) (mBin dIx (mVar 2) (mC (PyData.int 1)))))]) (mBin dMod (mVar 5) (mC (PyData.int 2))))), (mSh (mVar 4))])), (mSh (mVar 2))]))) mNx) drC)
theorem dr_eq : m__law_dressed = (mSeq (mSet 3 (mSh (mD (mCall f__law_draw [(mLo (mLV 0)), (mSh (mC (PyData.int 8)))]))))
  (mSeq (mSet 4 (mSh (mD (mCall f__law_one_of [(mLo (mLV 0)), (mSh (mVar 1))]))))
  (mSeq (mSet 5 (mSh (mD (mCall f__law_draw [(mLo (mLV 0)), (mSh (mC (PyData.int 9)))]))))
  (mSeq (mIfS (mAndT (mTest (mBin dEq (mVar 3) (mC (PyData.int 1)))) (mTest (mBin dIn (mBin dIx (mVar 2) (mC (PyData.int 0))) (mTup [(mSh (mC (PyData.str "take"))), (mSh (mC (PyData.str "ask"))), (mSh (mC (PyData.str "number"))), (mSh (mC (PyData.str "copy"))), (mSh (mC (PyData.str "mix"))), (mSh (mC (PyData.str "open"))), (mSh (mC (PyData.str "wipe")))])))) (mRet (mSh (mLst [(mSh (mBin dIx (mLst [(mSh (mTup [(mSh (mC (PyData.str "number"))), (mSh (mBin dIx (mVar 2) (mC (PyData.int 1)))), (mSh (mVar 5))])), (mSh (mTup [(mSh (mC (PyData.str "copy"))), (mSh (mBin dIx (mVar 2) (mC (PyData.int 1)))), (mSh (mVar 4))])), (mSh (mTup [(mSh (mC (PyData.str "open"))), (mSh (mBin dIx (mVar 2) (mC (PyData.int 1)))), (mSh (mVar 4))]))]) (mBin dMod (mVar 5) (mC (PyData.int 3))))), (mSh (mVar 2))]))) mNx) drB)))) := rfl
end Ds.K60
namespace Ds.K60
open PySem PySem.Spec PyProof.Rows L2 Dn TL
section
variable {b : Nat} {s : St} {Q : Cl → St → Prop} {ds : List Df} {Ws Bs : List Str} {d l : Nat}
theorem two_wf {u t : Nd} (hu : WfN ds Ws Bs d l u) (ht : WfN ds Ws Bs d l t) : ∀ v ∈ [u, t], WfN ds Ws Bs d l v := fun v hv => by
  simp only [List.mem_cons, List.not_mem_nil, or_false] at hv
  rcases hv with rfl | rfl
  · exact hu
  · exact ht
theorem enc_pl (v : Wd) : encN (.pl v) = encW v := by unfold encN; rfl
theorem enc_two (u t : Nd) : encR [u, t] = [encN u, encN t] := by rw [encR_map]; rfl
theorem drD_ {w : Nd} {x : Str} {n1 n2 : Int} {R : Fl → Ev → St → Prop} (S : Dq b s) (hB : ∀ x ∈ Bs, Bxo x) (hBl : 3 ≤ Bs.length ∧ Bs.length ≤ 8) (hx : Ok 50 x) (W : WfN ds Ws Bs d l w) (q : ∀ (ws : List Nd) (s' : St) (e' : Ev), (∀ v ∈ ws, WfN ds Ws Bs d l v) → ws.length ≤ 2 → Dq b s' → Fr b s s' → R (.rt (.sh (.list (encR ws)))) e' s') :
    Run drD [.lo b, .sh (.list (Bs.map PyData.str)), .sh (encN w), .sh (.int n1), .sh (.str x), .sh (.int n2)] s R := by
  have bo : ∀ {x : Str}, x ∈ Bs → Ok 50 x := fun hx => (hB _ hx).ok.mono (by decide)
  unfold drD
  repeat walk_at "ds"
  refine two_dec (fun h1 => ?_) (fun h1 => ?_)
  · repeat walk_at "ds"
    have := fun e' => q [w, .pl (.copy x x)] s e' (two_wf W (.pl ⟨hx, hx⟩)) (Nat.le_refl 2) S (.refl _ _)
    rw [enc_two, enc_pl] at this
    exact this _
  · repeat walk_at "ds"
    refine two_dec (fun h2 => ?_) (fun h2 => ?_)
    · repeat walk_at "ds"
      refine one_of S (by rw [List.length_map]; omega) fun d1 s2 hd D2 F2 => ?_
      obtain ⟨y, hy, rfl⟩ := List.mem_map.mp hd
      repeat walk_at "ds"
      refine bx_ix_in (Int.emod_nonneg _ (by omega)) (Int.emod_lt_of_pos _ (by simp)) fun d hd => ?_
      have hd : d ∈ [encW (.copy x y), encW (.number x n2)] := hd
      obtain ⟨v, rfl, hv⟩ : ∃ v, d = encW v ∧ WdT v := by
        simp only [List.mem_cons, List.not_mem_nil, or_false] at hd
        rcases hd with rfl | rfl
        · exact ⟨_, rfl, hx, bo hy⟩
        · exact ⟨_, rfl, hx⟩
      repeat walk_at "ds"
      have := fun e' => q [w, .pl v] s2 e' (two_wf W (.pl hv)) (Nat.le_refl 2) D2 F2
      rw [enc_two, enc_pl] at this
      exact this _
    · repeat walk_at "ds"
      have := fun e' => q [w] s e' (fun v hv => by rw [List.mem_singleton] at hv; subst hv; exact W) (Nat.le_succ 1) S (.refl _ _)
      rw [show encR [w] = [encN w] by rw [encR_map]; rfl] at this
      exact this _
theorem drC_ {w : Nd} {x : Str} {n1 n2 : Int} {R : Fl → Ev → St → Prop} (S : Dq b s) (hB : ∀ x ∈ Bs, Bxo x) (hBl : 3 ≤ Bs.length ∧ Bs.length ≤ 8) (hx : Ok 50 x) (W : WfN ds Ws Bs d l w) (q : ∀ (ws : List Nd) (s' : St) (e' : Ev), (∀ v ∈ ws, WfN ds Ws Bs d l v) → ws.length ≤ 2 → Dq b s' → Fr b s s' → R (.rt (.sh (.list (encR ws)))) e' s') :
    Run drC [.lo b, .sh (.list (Bs.map PyData.str)), .sh (encN w), .sh (.int n1), .sh (.str x), .sh (.int n2)] s R := by
  unfold drC
  repeat walk_at "ds"
  refine two_dec (fun h1 => ?_) (fun h1 => ?_)
  · repeat walk_at "ds"
    refine ⟨_, kw0 w, ?_⟩
    repeat walk_at "ds"
    refine two_in ["wipe", "clear"] (fun h2 => ?_) (fun h2 => ?_)
    · repeat walk_at "ds"
      have := fun e' => q [w, w] s e' (two_wf W W) (Nat.le_refl 2) S (.refl _ _)
      rw [enc_two] at this
      exact this _
    · repeat walk_at "ds"
      exact drD_ S hB hBl hx W q
  · repeat walk_at "ds"
    exact drD_ S hB hBl hx W q
theorem drB_ {w : Nd} {x : Str} {n1 n2 : Int} {R : Fl → Ev → St → Prop} (S : Dq b s) (hB : ∀ x ∈ Bs, Bxo x) (hBl : 3 ≤ Bs.length ∧ Bs.length ≤ 8) (hx : Ok 50 x) (W : WfN ds Ws Bs d l w) (q : ∀ (ws : List Nd) (s' : St) (e' : Ev), (∀ v ∈ ws, WfN ds Ws Bs d l v) → ws.length ≤ 2 → Dq b s' → Fr b s s' → R (.rt (.sh (.list (encR ws)))) e' s') :
    Run drB [.lo b, .sh (.list (Bs.map PyData.str)), .sh (encN w), .sh (.int n1), .sh (.str x), .sh (.int n2)] s R := by
  unfold drB
  repeat walk_at "ds"
  refine two_dec (fun h1 => ?_) (fun h1 => ?_)
  · repeat walk_at "ds"
    refine ⟨_, kw0 w, ?_⟩
    repeat walk_at "ds"
    refine two_dec (fun h2 => ?_) (fun h2 => ?_)
    · obtain ⟨y, hy, ey⟩ := argC W h2
      have hy1 := hy.1
      repeat walk_at "ds"
      refine ⟨_, ey, ?_⟩
      repeat walk_at "ds"
      refine bx_add_str (line_of (by rw [show (Str.ofString ".").length = 1 from rfl]; omega)) ?_
      repeat walk_at "ds"
      refine ⟨_, ey, ?_⟩
      repeat walk_at "ds"
      refine bx_add_str (line_of (by rw [len_append, show (Str.ofString ".").length = 1 from rfl]; omega)) ?_
      repeat walk_at "ds"
      refine bx_ix_in (Int.emod_nonneg _ (by omega)) (Int.emod_lt_of_pos _ (by simp)) fun d hd => ?_
      have hd : d ∈ [PyData.str x, .str (y ++ "." ++ y)] := hd
      obtain ⟨z, rfl, hz⟩ : ∃ z, d = .str z ∧ Ok 50 z := by
        simp only [List.mem_cons, List.not_mem_nil, or_false] at hd
        rcases hd with rfl | rfl
        · exact ⟨_, rfl, hx⟩
        · exact ⟨_, rfl, ((hy.append (Ok.lit "." 1 (by decide))).append hy).mono (by decide)⟩
      repeat walk_at "ds"
      have := fun e' => q [.pl (.copy z x), w] s e' (two_wf (.pl ⟨hz, hx⟩) W) (Nat.le_refl 2) S (.refl _ _)
      rw [enc_two, enc_pl] at this
      exact this _
    · repeat walk_at "ds"
      exact drC_ S hB hBl hx W q
  · repeat walk_at "ds"
    exact drC_ S hB hBl hx W q
theorem dressed_ {w : Nd} (S : Dq b s) (hB : ∀ x ∈ Bs, Bxo x) (hBl : 3 ≤ Bs.length ∧ Bs.length ≤ 8) (W : WfN ds Ws Bs d l w) (h : ∀ (ws : List Nd) (s' : St), (∀ v ∈ ws, WfN ds Ws Bs d l v) → ws.length ≤ 2 → Dq b s' → Fr b s s' → Q (.sh (.list (encR ws))) s') : FRun f__law_dressed [.lo b, .sh (.list (Bs.map PyData.str)), .sh (encN w)] s Q := by
  have hlt := S.lt
  have bo : ∀ {x : Str}, x ∈ Bs → Ok 50 x := fun hx => (hB _ hx).ok.mono (by decide)
  refine frun_fn rfl ?_
  rw [dr_eq]
  repeat walk_at "ds"
  refine draw S (by omega) fun n1 s1 a1 b1 S1 F1 => ?_
  repeat walk_at "ds"
  refine one_of S1 (by rw [List.length_map]; omega) fun d1 s2 hd D2 F2 => ?_
  obtain ⟨x, hx, rfl⟩ := List.mem_map.mp hd
  repeat walk_at "ds"
  refine draw D2 (by omega) fun n2 s3 a3 b3 S3 F3 => ?_
  have E3 := (F1.trans F2).trans F3
  repeat walk_at "ds"
  have fin : ∀ (ws : List Nd) (s' : St), (∀ v ∈ ws, WfN ds Ws Bs d l v) → ws.length ≤ 2 → Dq b s' → Fr b s3 s' → Q (.sh (.list (encR ws))) (trim s.length (.sh (.list (encR ws))) s') := fun ws s' hw hl D F => h ws _ hw hl (D.trim hlt) (E3.trans F).trim
  refine two_dec (fun h1 => ?_) (fun h1 => ?_)
  · repeat walk_at "ds"
    refine ⟨_, kw0 w, ?_⟩
    repeat walk_at "ds"
    refine two_in ["take", "ask", "number", "copy", "mix", "open", "wipe"] (fun h2 => ?_) (fun h2 => ?_)
    · obtain ⟨y, hy, ey⟩ := arg1 W h2
      repeat walk_at "ds"
      refine ⟨_, ey, ?_⟩
      repeat walk_at "ds"
      refine ⟨_, ey, ?_⟩
      repeat walk_at "ds"
      refine ⟨_, ey, ?_⟩
      repeat walk_at "ds"
      refine bx_ix_in (Int.emod_nonneg _ (by omega)) (Int.emod_lt_of_pos _ (by simp)) fun d hd => ?_
      have hd : d ∈ [encW (.number y n2), encW (.copy y x), encW (.opn y x)] := hd
      obtain ⟨v, rfl, hv⟩ : ∃ v, d = encW v ∧ WdT v := by
        simp only [List.mem_cons, List.not_mem_nil, or_false] at hd
        rcases hd with rfl | rfl | rfl
        · exact ⟨_, rfl, hy⟩
        · exact ⟨_, rfl, hy, bo hx⟩
        · exact ⟨_, rfl, hy, bo hx⟩
      repeat walk_at "ds"
      have := fin [.pl v, w] s3 (two_wf (.pl hv) W) (Nat.le_refl 2) S3 (.refl _ _)
      rw [enc_two, enc_pl] at this
      exact this
    · repeat walk_at "ds"
      refine drB_ S3 hB hBl (bo hx) W fun ws s' e' hw hl D F => ?_
      repeat walk_at "ds"
      exact fin ws s' hw hl D F
  · repeat walk_at "ds"
    refine drB_ S3 hB hBl (bo hx) W fun ws s' e' hw hl D F => ?_
    repeat walk_at "ds"
    exact fin ws s' hw hl D F
end
end Ds.K60
namespace Ds.K60
open PySem PySem.Spec PyProof.Rows L2 Dn TL
section
variable {bd lc ld : Nat} {Ws Bs Fs : List Str} {ds : List Df} {s : St} {d l : Nat} {k : Nat}
theorem grown_ (hL : PL bd lc ld Ws Bs Fs ds k d) (G : GC Ws Bs Fs ds) : PG bd lc ld Ws Bs Fs ds (k + 1) d := fun l m s Q hl hm C q => by
  obtain ⟨l1, l2, l3⟩ := C.lt
  show FRun (fnF 5 8 (m__law_grown (f_G22 k))) _ _ _
  refine frun_fn rfl ?_
  unfold m__law_grown
  repeat walk_at "ds"
  have C1 := C.app (o := .lst [])
  have f1 : (s ++ [Ob.lst []])[s.length]? = some (.lst ((encR []).map Cl.sh)) := by unfold encR; exact app_new
  have F1 : Fr2 bd lc s (s ++ [Ob.lst []]) := Fr2.refl.app
  generalize s ++ [Ob.lst []] = s1 at C1 f1 F1 ⊢
  refine draw C1.d (by omega) fun n1 s2 a2 b2 D2 F2 => ?_
  have C2 := C1.fr F2 D2
  have f2 := F2.at_ f1 (by omega)
  have E2 := F1.trans (Fr2.of F2)
  repeat walk_at "ds"
  refine run_forL _ (fun i e s' => ∃ (r : Rw) (z z7 : Cl), r.length ≤ 2 * i ∧ (∀ w ∈ r, WfN ds Ws Bs d l w) ∧ Cq bd lc ld Ws Bs Fs ds s' ∧ Fr2 bd lc s s' ∧ s'[s.length]? = some (.lst ((encR r).map Cl.sh)) ∧ e = [.lo bd, .lo lc, .sh (.int d), .sh (.int l), .sh (.int m), .lo s.length, z, z7]) ⟨[], _, _, Nat.zero_le _, (fun _ h => nomatch h), C2, E2, f2, rfl⟩ (fun i x e s' hx hI => ?_) fun e s' hI => ?_
  · obtain ⟨r, z, z7, g1, g2, C3, E3, f3, rfl⟩ := hI
    obtain ⟨rfl, hi⟩ := rngD_at hx
    obtain ⟨rm, hc⟩ := C3.c
    have hi11 : i < 11 := by omega
    refine ⟨_, rfl, ?_⟩
    repeat walk_at "ds"
    refine ⟨_, .inr "room", _, hc, rfl, rfl, ?_⟩
    repeat walk_at "ds"
    refine two_dec (fun h0 => ?_) (fun h0 => ?_)
    · repeat walk_at "ds"
      refine ⟨_, .inr "room", _, hc, rfl, rfl, ?_⟩
      repeat walk_at "ds"
      refine ⟨_, .inr "room", hc, rfl, by show 5 < 16777216; decide, ?_⟩
      rw [put_room]
      have C4 := C3.put (rm := rm - 1)
      have E4 := E3.put (o := .dk (caseD Bs Ws Fs ld (rm - 1)))
      have f4 := (set_other (o := .dk (caseD Bs Ws Fs ld (rm - 1))) (show s.length ≠ lc by omega)).trans f3
      generalize s'.set lc (.dk (caseD Bs Ws Fs ld (rm - 1))) = s4 at C4 E4 f4 ⊢
      repeat walk_at "ds"
      obtain ⟨rm4, hc4⟩ := C4.c
      refine plain_ C4.d hc4 rfl rfl G.bn C4.n1 G.b G.bl G.wl fun v s5 ok D5 F5 => ?_
      have C5 := C4.fr F5 D5
      have f5 := F5.at_ f4 (by omega)
      have E5 := E4.trans (Fr2.of F5)
      repeat walk_at "ds"
      refine draw C5.d (by omega) fun n2 s6 a6 b6 D6 F6 => ?_
      have C6 := C5.fr F6 D6
      have f6 := F6.at_ f5 (by omega)
      have E6 := E5.trans (Fr2.of F6)
      repeat walk_at "ds"
      refine two_join (fun e1 s1 => ∃ w : Nd, e1 = [.lo bd, .lo lc, .sh (.int d), .sh (.int l), .sh (.int m), .lo s.length, .sh (.int (0 + (i : Int))), .sh (encN w)] ∧ WfN ds Ws Bs d l w ∧ Cq bd lc ld Ws Bs Fs ds s1 ∧ Fr2 bd lc s s1 ∧ s1[s.length]? = some (.lst ((encR r).map Cl.sh))) (fun hz => ?_) (fun hz => ?_) fun e1 s1 hP => ?_
      · repeat walk_at "ds"
        refine hL l s6 _ hl C6 fun w s7 W C7 F7 => ?_
        have f7 := (F7.2 _ (lt_of_at f6) (by omega) (by omega)).trans f6
        repeat walk_at "ds"
        exact ⟨rfl, w, rfl, W, C7, E6.trans F7, f7⟩
      · repeat walk_at "ds"
        exact ⟨rfl, .pl v, by rw [enc_pl]; rfl, .pl (.of G.w G.b ok), C6, E6, f6⟩
      · obtain ⟨w, rfl, W, C7, E7, f7⟩ := hP
        obtain ⟨rm7, hc7⟩ := C7.c
        repeat walk_at "ds"
        refine ⟨_, f7, ?_⟩
        repeat walk_at "ds"
        refine ⟨_, .inr "boxes", _, hc7, rfl, rfl, ?_⟩
        repeat walk_at "ds"
        refine dressed_ C7.d G.b G.bl W fun ws s8 hws hwl D8 F8 => ?_
        have C8 := C7.fr F8 D8
        have f8 := F8.at_ f7 (by omega)
        have E8 := E7.trans (Fr2.of F8)
        repeat walk_at "ds"
        refine ⟨_, _, _, f8, rfl, rfl, line_of (by rw [List.length_map, encR_len, encR_len]; omega), ?_⟩
        have e3 : (encR r).map Cl.sh ++ (encR ws).map Cl.sh = (encR (r ++ ws)).map Cl.sh := by rw [encR_map, encR_map, encR_map]; simp
        rw [e3]
        refine turn_nx ⟨r ++ ws, _, _, by rw [List.length_append]; omega, fun v hv => (List.mem_append.mp hv).elim (g2 v) (hws v), C8.new (by omega) (by omega) (by omega), E8.new (Nat.le_refl _), set_same (lt_of_at f8), rfl⟩
    · repeat walk_at "ds"
      exact ⟨r, _, _, by omega, g2, C3, E3, f3, rfl⟩
  · obtain ⟨r, z, z7, g1, g2, C3, E3, f3, rfl⟩ := hI
    rw [rngD_length] at g1
    repeat walk_at "ds"
    refine ⟨_, _, snap_list f3, rfl, ?_⟩
    repeat walk_at "ds"
    exact q r _ ⟨by omega, g2⟩ (by omega) (C3.trim l1 l2 l3) E3.trim
theorem gen_both (G : GC Ws Bs Fs ds) : ∀ (d k : Nat), PL bd lc ld Ws Bs Fs ds (2 * d + 1 + k) d ∧ PG bd lc ld Ws Bs Fs ds (2 * d + 2 + k) d
  | 0, k => by
    have h : PL bd lc ld Ws Bs Fs ds (2 * 0 + 1 + k) 0 := by
      rw [show 2 * 0 + 1 + k = k + 1 by omega]
      exact leading_ (fun d' e => by omega) G
    refine ⟨h, ?_⟩
    rw [show 2 * 0 + 2 + k = (2 * 0 + 1 + k) + 1 by omega]
    exact grown_ h G
  | d + 1, k => by
    have ih := (gen_both G d k).2
    have h : PL bd lc ld Ws Bs Fs ds (2 * (d + 1) + 1 + k) (d + 1) := by
      rw [show 2 * (d + 1) + 1 + k = (2 * d + 2 + k) + 1 by omega]
      exact leading_ (fun d' e => by
        have : d' = d := by omega
        subst this
        exact ih) G
    refine ⟨h, ?_⟩
    rw [show 2 * (d + 1) + 2 + k = (2 * (d + 1) + 1 + k) + 1 by omega]
    exact grown_ h G
theorem grow (G : GC Ws Bs Fs ds) (hd : d ≤ 6) : PG bd lc ld Ws Bs Fs ds 14 d := by
  have := (gen_both (bd := bd) (lc := lc) (ld := ld) G d (14 - (2 * d + 2))).2
  rwa [show 2 * d + 2 + (14 - (2 * d + 2)) = 14 by omega] at this
end
end Ds.K60
namespace Ds.K60
open PySem PySem.Spec PyProof.Rows L2 Dn TL
theorem mer5 {Bs Ws Fs : List Str} {ld : Nat} {rm : Int} : mergeC [] [(Sum.inr (Str.ofString "boxes"), Cl.sh (.list (Bs.map PyData.str))), (Sum.inr (Str.ofString "worths"), Cl.sh (.list (Ws.map PyData.str))), (Sum.inr (Str.ofString "faults"), Cl.sh (.list (Fs.map PyData.str))), (Sum.inr (Str.ofString "defs"), Cl.lo ld), (Sum.inr (Str.ofString "room"), Cl.sh (.int rm))] = caseD Bs Ws Fs ld rm := rfl
theorem list_ix {xs : List Str} {j : Nat} {x : Str} {i : Int} (h : xs[j]? = some x) (hi : i = j) : dIx (.list (xs.map PyData.str)) (.int i) = some (.str x) := by
  subst hi
  have hlt := (List.getElem?_eq_some_iff.mp h).1
  show atI (xs.map PyData.str) (j : Int) = _
  unfold atI ixN
  rw [List.length_map, if_pos (by omega), if_pos (by omega)]
  show (xs.map PyData.str)[((j : Int)).toNat]? = _
  rw [Int.toNat_natCast, List.getElem?_map, h]
  rfl
theorem cut3 {e : Df} : Dn.cutD [.str e.nm, .tuple (e.ps.map PyData.str), .tuple (e.rs.map PyData.str), .tuple (encR e.row)] none (some 3) = [.str e.nm, .tuple (e.ps.map PyData.str), .tuple (e.rs.map PyData.str)] := rfl
theorem Fr.f2 {b c : Nat} {s s1 s2 : St} (h : Fr b s s1) (F : Fr2 b c s1 s2) (hc : s.length ≤ c) : Fr b s s2 := ⟨Nat.le_trans h.1 F.1, fun j hj hb => (F.2 j (Nat.lt_of_lt_of_le hj h.1) hb (by omega)).trans (h.2 j hj hb)⟩
theorem names_nd {xs : List Str} {ds : List Df} (hn : xs.Nodup) (h : ∀ (j : Nat) (e : Df), ds[j]? = some e → xs[11 + j]? = some e.nm) : (ds.map Df.nm).Nodup := by
  refine List.pairwise_iff_getElem.mpr fun i j hi hj hij e => ?_
  rw [List.length_map] at hi hj
  rw [List.getElem_map, List.getElem_map] at e
  have h1 := h i _ (List.getElem?_eq_getElem hi)
  have h2 := h j _ (List.getElem?_eq_getElem hj)
  obtain ⟨l1, g1⟩ := List.getElem?_eq_some_iff.mp h1
  obtain ⟨l2, g2⟩ := List.getElem?_eq_some_iff.mp h2
  exact List.pairwise_iff_getElem.mp hn _ _ l1 l2 (by omega) (by rw [g1, g2, e])
/-- a def as far as it is right -/
structure DfA (Ws Bs : List Str) (ds : List Df) (e : Df) : Prop where
  ok : Ok 10 e.nm ∧ e.nm ≠ ""
  ps : ∀ x ∈ e.ps, x ∈ Bs
  rs : ∀ x ∈ e.rs, x ∈ Bs
  nd : e.rs.Nodup
  pl : e.ps.length ≤ 8
  rl : e.rs.length ≤ 8
  row : WfR ds Ws Bs 2 0 e.row
end Ds.K60
namespace Ds.K60
open PySem PySem.Spec PyProof.Rows L2 Dn TL
section
variable {b : Nat} {s : St} {Q : Cl → St → Prop}
theorem program_ {xs : List Str} {many most : Int} (S : Dq b s) (hx : ∀ x ∈ xs, Nam x) (hn : xs.Nodup) (hl : xs.length = 17) (hm : 0 ≤ many ∧ many ≤ 6) (q : ∀ (P : Pg) (Ws Bs : List Str) (s' : St), Nms P → (∀ e ∈ P.ds, Ok 10 e.nm ∧ (∀ x ∈ e.ps, x ∈ Bs) ∧ (∀ x ∈ e.rs, x ∈ Bs) ∧ WfR P.ds Ws Bs 2 0 e.row) → WfR P.ds Ws Bs 3 0 P.main → (∀ x ∈ Bs, Bxo x) → P.ds.length ≤ 6 → Dq b s' → Fr b s s' → Q (.sh (wholeP P)) s') :
    FRun f__law_program [.lo b, .sh (.list (xs.map PyData.str)), .sh (.int many), .sh (.int most)] s Q := by
  have hlt := S.lt
  refine frun_fn rfl ?_
  unfold m__law_program
  repeat walk_at "ds"
  refine boxes_ S hx hn hl fun Bs s1 hB hBn hBl D1 F1 => ?_
  repeat walk_at "ds"
  have c1 : Dn.cutD (xs.map PyData.str) (some 6) (some 9) = ((xs.drop 6).take 3).map PyData.str := by
    rw [List.map_take, List.map_drop]
    exact cut_mid (j := 6) (k := 9) (by decide) (by rw [List.length_map, hl]; decide)
  have c2 : Dn.cutD (xs.map PyData.str) none (some 3) = (xs.take 3).map PyData.str := by
    rw [List.map_take]
    exact cut_lo (k := 3)
  have c3 : Dn.cutD (xs.map PyData.str) (some 9) (some 11) = ((xs.drop 9).take 2).map PyData.str := by
    rw [List.map_take, List.map_drop]
    exact cut_mid (j := 9) (k := 11) (by decide) (by rw [List.length_map, hl]; decide)
  rw [c1, c2]
  refine bx_add_lst (line_of (by simp; omega)) ?_
  rw [← List.map_append]
  obtain ⟨Ws, eW, hWl, hWm⟩ : ∃ Ws : List Str, (xs.drop 6).take 3 ++ xs.take 3 = Ws ∧ Ws.length = 6 ∧ ∀ w ∈ Ws, w ∈ xs := by
    refine ⟨_, rfl, by simp; omega, fun w hw => ?_⟩
    rcases List.mem_append.mp hw with q | q
    · exact List.mem_of_mem_drop (List.mem_of_mem_take q)
    · exact List.mem_of_mem_take q
  rw [eW]
  have hW : ∀ w ∈ Ws, Ok 10 w := fun w hw => (hx w (hWm w hw)).lo.1.1.mono (by decide)
  repeat walk_at "ds"
  rw [c3]
  obtain ⟨Fs, eF, hFl, hFm⟩ : ∃ Fs : List Str, (xs.drop 9).take 2 = Fs ∧ Fs.length = 2 ∧ ∀ w ∈ Fs, w ∈ xs :=
    ⟨_, rfl, by simp; omega, fun w hw => List.mem_of_mem_drop (List.mem_of_mem_take hw)⟩
  rw [eF]
  have hF : ∀ w ∈ Fs, Ok 10 w := fun w hw => (hx w (hFm w hw)).lo.1.1.mono (by decide)
  repeat walk_at "ds"
  have le1 := F1.1
  rw [mer5]
  have Dz := ((D1.app (o := Ob.lst [])).app (o := Ob.dk (caseD Bs Ws Fs s1.length 0))).app (o := Ob.lst [])
  have Fz1 : Fr b s (s1 ++ [Ob.lst []] ++ [Ob.dk (caseD Bs Ws Fs s1.length 0)] ++ [Ob.lst []]) := ((F1.trans Fr.app).trans Fr.app).trans Fr.app
  have la : (s1 ++ [Ob.lst []]).length = s1.length + 1 := by simp
  have lb : (s1 ++ [Ob.lst []] ++ [Ob.dk (caseD Bs Ws Fs s1.length 0)]).length = s1.length + 2 := by simp
  have g1 : (s1 ++ [Ob.lst []] ++ [Ob.dk (caseD Bs Ws Fs s1.length 0)] ++ [Ob.lst []])[s1.length]? = some (.lst []) := (app_old (by simp)).trans ((app_old (by simp)).trans app_new)
  have g2 : (s1 ++ [Ob.lst []] ++ [Ob.dk (caseD Bs Ws Fs s1.length 0)] ++ [Ob.lst []])[s1.length + 1]? = some (.dk (caseD Bs Ws Fs s1.length 0)) := by
    rw [← la]
    exact (app_old (by simp)).trans app_new
  have g3 : (s1 ++ [Ob.lst []] ++ [Ob.dk (caseD Bs Ws Fs s1.length 0)] ++ [Ob.lst []])[s1.length + 2]? = some (.lst []) := by
    rw [← lb]
    exact app_new
  rw [la, lb]
  generalize s1 ++ [Ob.lst []] ++ [Ob.dk (caseD Bs Ws Fs s1.length 0)] ++ [Ob.lst []] = s2 at Dz Fz1 g1 g2 g3 ⊢
  obtain ⟨ld, hld⟩ : ∃ ld, ld = s1.length := ⟨_, rfl⟩
  rw [← hld] at g1 g2 g3 la lb ⊢
  have hbl := S.lt
  have C0 : Cq b (ld + 1) ld Ws Bs Fs [] s2 := ⟨Dz, ⟨0, g2⟩, g1, by omega, by omega, by omega⟩
  refine run_forL _ (fun i e s' => ∃ (ds : List Df) (z7 z8 z9 : Cl), ds.length = i ∧ (∀ (j : Nat) (e : Df), ds[j]? = some e → xs[11 + j]? = some e.nm) ∧ (∀ e ∈ ds, DfA Ws Bs ds e) ∧ Cq b (ld + 1) ld Ws Bs Fs ds s' ∧ Fr b s s' ∧ s'[ld + 2]? = some (.lst ((ds.map encD).map Cl.sh)) ∧ e = [.lo b, .sh (.list (xs.map PyData.str)), .sh (.int many), .sh (.int most), .sh (.list (Bs.map PyData.str)), .lo (ld + 1), .lo (ld + 2), z7, z8, z9]) ⟨[], _, _, _, rfl, (fun j e h => by simp at h), (fun _ h => nomatch h), C0, Fz1, g3, rfl⟩ (fun i x e s' hd hI => ?_) fun e s' hI => ?_
  · obtain ⟨ds, z7, z8, z9, f1, f2, f3, C, F, g4, rfl⟩ := hI
    obtain ⟨rfl, hi⟩ := rngD_at hd
    have hi6 : i < 6 := by omega
    refine ⟨_, rfl, ?_⟩
    repeat walk_at "ds"
    refine some__ C.d (by decide) fun v1 s3 hv1 D3 F3 => ?_
    have C3 := C.fr F3 D3
    repeat walk_at "ds"
    refine picked_ C3.d hBn hBl.2 (by omega) fun ps s4 h1 h2 h3 D4 F4 => ?_
    have C4 := C3.fr F4 D4
    repeat walk_at "ds"
    refine some__ C4.d (by decide) fun v2 s5 hv2 D5 F5 => ?_
    have C5 := C4.fr F5 D5
    repeat walk_at "ds"
    refine picked_ C5.d hBn hBl.2 (by omega) fun rs s6 k1 k2 k3 D6 F6 => ?_
    have C6 := C5.fr F6 D6
    have F06 := F3.trans (F4.trans (F5.trans F6))
    have g6 := F06.at_ g4 (by omega)
    have E6 := F.trans F06
    obtain ⟨rm6, hc6⟩ := C6.c
    repeat walk_at "ds"
    obtain ⟨rmN, erm⟩ : ∃ r : Int, dIx (.list [.int 5, .int 3]) (.int (if decide (3 < many) = true then 1 else 0)) = some (.int r) := by
      by_cases h : 3 < many
      · rw [decide_eq_true h]; exact ⟨3, rfl⟩
      · rw [decide_eq_false h]; exact ⟨5, rfl⟩
    refine ⟨_, erm, ?_⟩
    repeat walk_at "ds"
    refine ⟨_, .inr "room", hc6, rfl, by show 5 < 16777216; decide, ?_⟩
    rw [put_room]
    have C7 := C6.put (rm := rmN)
    have g7 := (set_other (o := .dk (caseD Bs Ws Fs ld rmN)) (show ld + 2 ≠ ld + 1 by omega)).trans g6
    have E7 := E6.put (o := .dk (caseD Bs Ws Fs ld rmN)) (show s.length ≤ ld + 1 by omega)
    generalize s6.set (ld + 1) (.dk (caseD Bs Ws Fs ld rmN)) = s7 at C7 g7 E7 ⊢
    repeat walk_at "ds"
    refine ⟨_, g7, ?_⟩
    repeat walk_at "ds"
    obtain ⟨nm, hnm⟩ : ∃ nm, xs[11 + i]? = some nm := ⟨_, List.getElem?_eq_getElem (by omega)⟩
    have nam := hx nm (List.mem_of_getElem? hnm)
    refine ⟨_, list_ix hnm (by omega), ?_⟩
    repeat walk_at "ds"
    have G : GC Ws Bs Fs ds := ⟨hB, hBn, hBl, hW, by omega, hF, by omega, by omega, fun e he => ⟨(f3 e he).pl, (f3 e he).rl⟩, fun e he => ⟨(f3 e he).ok.1, (f3 e he).ps, (f3 e he).rs⟩⟩
    refine grow G (d := 2) (by decide) 0 4 s7 _ (by decide) (by decide) C7 fun row s8 W hrl C8 F8 => ?_
    have g8 := (F8.2 _ (lt_of_at g7) (by omega) (by omega)).trans g7
    have E8 := Fr.f2 E7 F8 (show s.length ≤ ld + 1 by omega)
    repeat walk_at "ds"
    refine ⟨_, g8, Nat.lt_of_le_of_lt (show _ ≤ 100 by rw [List.length_map, List.length_map]; omega) (by decide), ?_⟩
    obtain ⟨e, he⟩ : ∃ e : Df, e = ⟨nm, ps, rs, row⟩ := ⟨_, rfl⟩
    have e3 : (ds.map encD).map Cl.sh ++ [.sh (.tuple [.str nm, .tuple (ps.map PyData.str), .tuple (rs.map PyData.str), .tuple (encR row)])] = ((ds ++ [e]).map encD).map Cl.sh := by rw [he]; simp [encD]
    rw [e3]
    have g9 := set_same (s := s8) (o := .lst (((ds ++ [e]).map encD).map Cl.sh)) (lt_of_at g8)
    have C9 := C8.new (o := .lst (((ds ++ [e]).map encD).map Cl.sh)) (l := ld + 2) (by omega) (by omega) (by omega)
    have E9 := E8.put (o := .lst (((ds ++ [e]).map encD).map Cl.sh)) (show s.length ≤ ld + 2 by omega)
    generalize s8.set (ld + 2) (.lst (((ds ++ [e]).map encD).map Cl.sh)) = s9 at g9 C9 E9 ⊢
    obtain ⟨rm9, hc9⟩ := C9.c
    repeat walk_at "ds"
    refine ⟨_, .inr "defs", _, hc9, rfl, rfl, ?_⟩
    repeat walk_at "ds"
    refine ⟨_, C9.l, ?_⟩
    repeat walk_at "ds"
    have lst : ixC s9 (.lo (ld + 2)) (.int (-1)) = some (.sh (encD e)) := ixC_lo g9 (by
      unfold atI ixN
      rw [List.length_map, List.length_map, List.length_append, List.length_singleton, if_neg (by decide), if_pos (by omega)]
      have ej : ((-1 : Int) + ((ds.length + 1 : Nat) : Int)).toNat = ds.length := by omega
      rw [ej]
      simp)
    refine ⟨_, lst, ?_⟩
    unfold encD
    repeat walk_at "ds"
    rw [cut3]
    refine ⟨_, C9.l, Nat.lt_of_le_of_lt (show _ ≤ 100 by rw [List.length_map, List.length_map]; omega) (by decide), ?_⟩
    have e4 : (ds.map d3).map Cl.sh ++ [.sh (.tuple [.str e.nm, .tuple (e.ps.map PyData.str), .tuple (e.rs.map PyData.str)])] = ((ds ++ [e]).map d3).map Cl.sh := by simp [d3]
    rw [e4]
    repeat walk_at "ds"
    have hlt9 := C9.lt
    have sub : ∀ e' ∈ ds, e' ∈ ds ++ [e] := fun e' h => List.mem_append_left _ h
    have Ce : DfA Ws Bs (ds ++ [e]) e := by
      rw [he]
      exact ⟨⟨nam.lo.1.1.mono (by decide), nam.ne⟩, h1, k1, k2, h3, k3, W.more fun e' h => List.mem_append_left _ h⟩
    refine ⟨ds ++ [e], _, _, _, by simp [f1], fun j e' hj => ?_, fun e' he' => ?_, ⟨C9.d.set (by omega), ⟨rm9, (set_other (by omega)).trans hc9⟩, set_same hlt9.2.2, by omega, by omega, by omega⟩, E9.put (by omega), (set_other (by omega)).trans g9, rfl⟩
    · by_cases hjl : j < ds.length
      · rw [List.getElem?_append_left hjl] at hj
        exact f2 j e' hj
      · have hj2 := (List.getElem?_eq_some_iff.mp hj).1
        rw [List.length_append, List.length_singleton] at hj2
        have hj3 : j = ds.length := by omega
        subst hj3
        rw [List.getElem?_append_right (Nat.le_refl _), Nat.sub_self] at hj
        have hj : e = e' := by simpa using hj
        rw [← hj, he, f1]
        exact hnm
    · rcases List.mem_append.mp he' with h | h
      · obtain ⟨a1, a2, a3, a4, a5, a6, a7⟩ := f3 e' h
        exact ⟨a1, a2, a3, a4, a5, a6, a7.more sub⟩
      · rw [List.mem_singleton] at h
        rw [h]
        exact Ce
  · obtain ⟨ds, z7, z8, z9, f1, f2, f3, C, F, g4, rfl⟩ := hI
    rw [rngD_length] at f1
    have f6 : ds.length ≤ 6 := by omega
    obtain ⟨rm, hc⟩ := C.c
    have G : GC Ws Bs Fs ds := ⟨hB, hBn, hBl, hW, by omega, hF, by omega, f6, fun e he => ⟨(f3 e he).pl, (f3 e he).rl⟩, fun e he => ⟨(f3 e he).ok.1, (f3 e he).ps, (f3 e he).rs⟩⟩
    repeat walk_at "ds"
    refine ⟨_, .inr "room", hc, rfl, by show 5 < 16777216; decide, ?_⟩
    rw [put_room]
    have C7 := C.put (rm := most)
    have g7 := (set_other (o := .dk (caseD Bs Ws Fs ld most)) (show ld + 2 ≠ ld + 1 by omega)).trans g4
    have E7 := F.put (o := .dk (caseD Bs Ws Fs ld most)) (show s.length ≤ ld + 1 by omega)
    generalize s'.set (ld + 1) (.dk (caseD Bs Ws Fs ld most)) = s7 at C7 g7 E7 ⊢
    repeat walk_at "ds"
    refine ⟨_, _, snap_list g7, rfl, ?_⟩
    repeat walk_at "ds"
    refine grow G (d := 3) (by decide) 0 5 s7 _ (by decide) (by decide) C7 fun r1 s8 W1 hr1 C8 F8 => ?_
    repeat walk_at "ds"
    refine grow G (d := 2) (by decide) 0 6 s8 _ (by decide) (by decide) C8 fun r2 s9 W2 hr2 C9 F9 => ?_
    repeat walk_at "ds"
    refine bx_add_tup (line_of (by rw [encR_len, encR_len]; omega)) ?_
    repeat walk_at "ds"
    have E9 := Fr.f2 (Fr.f2 E7 F8 (show s.length ≤ ld + 1 by omega)) F9 (show s.length ≤ ld + 1 by omega)
    have eP : PyData.tuple [.tuple (ds.map encD), .tuple (encR r1 ++ encR r2)] = wholeP ⟨ds, r1 ++ r2⟩ := by
      unfold wholeP
      rw [encR_map, encR_map, encR_map, List.map_append]
    have NP : Nms ⟨ds, r1 ++ r2⟩ := ⟨names_nd hn f2, fun e he => (f3 e he).ok.2⟩
    have HD : ∀ e ∈ ds, Ok 10 e.nm ∧ (∀ x ∈ e.ps, x ∈ Bs) ∧ (∀ x ∈ e.rs, x ∈ Bs) ∧ WfR ds Ws Bs 2 0 e.row := fun e he => by
      obtain ⟨a1, a2, a3, a4, a5, a6, a7⟩ := f3 e he
      exact ⟨a1.1, a2, a3, a7⟩
    have HM : WfR ds Ws Bs 3 0 (r1 ++ r2) := W1.app (W2.ups (k := 1)) (by omega)
    have hb := q ⟨ds, r1 ++ r2⟩ Ws Bs (trim s.length (.sh (wholeP ⟨ds, r1 ++ r2⟩)) s9) NP HD HM hB f6 (C9.d.trim hlt) E9.trim
    rw [← eP] at hb
    exact hb
end
end Ds.K60
namespace Ds.K60
open PySem PySem.Spec PyProof.Rows L2 Dn TL
mutual
def spN (q : List Nat) : Nd → List (List Nat × Nd)
  | .pl _ => []
  | .choose rs => spRs q 0 rs
  | .loop r => spR (0 :: q) 0 r
  | .out _ => []
  | .risk _ => []
  | .fault _ => []
  | .back => []
  | .call _ _ _ => []
def spR (hd : List Nat) (i : Nat) : List Nd → List (List Nat × Nd)
  | [] => []
  | w :: r => (i :: hd, w) :: (spN (i :: hd) w ++ spR hd (i + 1) r)
def spRs (q : List Nat) (j : Nat) : List (List Nd) → List (List Nat × Nd)
  | [] => []
  | r :: rs => spR (j :: q) 0 r ++ spRs q (j + 1) rs
end
theorem spR_nil {hd : List Nat} {i : Nat} : spR hd i [] = [] := by unfold spR; rfl
theorem spR_cons {hd : List Nat} {i : Nat} {w : Nd} {r : Rw} : spR hd i (w :: r) = (i :: hd, w) :: (spN (i :: hd) w ++ spR hd (i + 1) r) := by rw [spR]
theorem spRs_nil {q : List Nat} {j : Nat} : spRs q j [] = [] := by unfold spRs; rfl
theorem spRs_cons {q : List Nat} {j : Nat} {r : Rw} {rs : List Rw} : spRs q j (r :: rs) = spR (j :: q) 0 r ++ spRs q (j + 1) rs := by rw [spRs]
theorem spN_rows {q : List Nat} {w : Nd} : spN q w = spRs q 0 (rowsN w) := by
  cases w with
  | choose rs => unfold spN; rfl
  | loop r => unfold spN; show _ = spRs q 0 [r]; rw [spRs_cons, spRs_nil, List.append_nil]
  | _ => unfold spN; exact spRs_nil.symm
theorem spR_app {hd : List Nat} : ∀ {a b : Rw} {i : Nat}, spR hd i (a ++ b) = spR hd i a ++ spR hd (i + a.length) b
  | [], b, i => by rw [spR_nil]; simp
  | w :: a, b, i => by
    rw [List.cons_append, spR_cons, spR_cons, spR_app (a := a), List.cons_append, List.append_assoc, List.length_cons, show i + 1 + a.length = i + (a.length + 1) by omega]
theorem spRs_app {q : List Nat} : ∀ {a b : List Rw} {j : Nat}, spRs q j (a ++ b) = spRs q j a ++ spRs q (j + a.length) b
  | [], b, j => by rw [spRs_nil]; simp
  | r :: a, b, j => by
    rw [List.cons_append, spRs_cons, spRs_cons, spRs_app (a := a), List.append_assoc, List.length_cons, show j + 1 + a.length = j + (a.length + 1) by omega]
theorem spR_snoc {hd : List Nat} {r : Rw} {i : Nat} {w : Nd} (h : r[i]? = some w) : spR hd 0 (r.take (i + 1)) = spR hd 0 (r.take i) ++ ((i :: hd, w) :: spN (i :: hd) w) := by
  have hi := (List.getElem?_eq_some_iff.mp h).1
  rw [List.take_succ, h, spR_app, List.length_take, Nat.min_eq_left (by omega), Nat.zero_add]
  show _ ++ spR hd i [w] = _
  rw [spR_cons, spR_nil, List.append_nil]
theorem spRs_snoc {q : List Nat} {rs : List Rw} {j : Nat} {r : Rw} (h : rs[j]? = some r) : spRs q 0 (rs.take (j + 1)) = spRs q 0 (rs.take j) ++ spR (j :: q) 0 r := by
  have hj := (List.getElem?_eq_some_iff.mp h).1
  rw [List.take_succ, h, spRs_app, List.length_take, Nat.min_eq_left (by omega), Nat.zero_add]
  show _ ++ spRs q j [r] = _
  rw [spRs_cons, spRs_nil, List.append_nil]
def cW : Nat → Nat
  | 0 => 1
  | d + 1 => 1 + 4 * (22 * cW d)
theorem cW_mono : ∀ {d e : Nat}, d ≤ e → cW d ≤ cW e
  | 0, e, _ => by
    cases e with
    | zero => exact Nat.le_refl _
    | succ e => show 1 ≤ 1 + 4 * (22 * cW e); omega
  | d + 1, 0, h => by omega
  | d + 1, e + 1, h => by
    have := cW_mono (d := d) (e := e) (by omega)
    show 1 + 4 * (22 * cW d) ≤ 1 + 4 * (22 * cW e)
    omega
theorem spR_len {hd : List Nat} {c : Nat} : ∀ {r : Rw} {i : Nat}, (∀ w ∈ r, ∀ q, (spN q w).length + 1 ≤ c) → (spR hd i r).length ≤ r.length * c
  | [], i, _ => by rw [spR_nil]; exact Nat.zero_le _
  | w :: r, i, h => by
    have h1 := h w List.mem_cons_self (i :: hd)
    have h2 := spR_len (hd := hd) (r := r) (i := i + 1) fun v hv => h v (List.mem_cons_of_mem _ hv)
    rw [spR_cons, List.length_cons, List.length_append, List.length_cons, Nat.succ_mul]
    omega
theorem spRs_len {q : List Nat} {c : Nat} : ∀ {rs : List Rw} {j : Nat}, (∀ r ∈ rs, ∀ hd, (spR hd 0 r).length ≤ c) → (spRs q j rs).length ≤ rs.length * c
  | [], j, _ => by rw [spRs_nil]; exact Nat.zero_le _
  | r :: rs, j, h => by
    have h1 := h r List.mem_cons_self (j :: q)
    have h2 := spRs_len (q := q) (rs := rs) (j := j + 1) fun v hv => h v (List.mem_cons_of_mem _ hv)
    rw [spRs_cons, List.length_append, List.length_cons, Nat.succ_mul]
    omega
section
variable {ds : List Df} {Ws Bs : List Str} {d l : Nat}
theorem sp_count {w : Nd} (h : WfN ds Ws Bs d l w) : ∀ q, (spN q w).length + 1 ≤ cW d := by
  have one : ∀ {d : Nat}, 1 ≤ cW d := fun {d} => cW_mono (d := 0) (Nat.zero_le d)
  have z : ∀ {w : Nd} {d : Nat}, rowsN w = [] → ∀ q, (spN q w).length + 1 ≤ cW d := fun {w d} e q => by
    rw [spN_rows, e, spRs_nil]
    exact one
  induction h with
  | pl h => exact z rfl
  | out a b => exact z rfl
  | risk a => exact z rfl
  | fault a => exact z rfl
  | back => exact z rfl
  | call e a b c d' f g i j k => exact z rfl
  | @choose d l rs a b c f ih =>
    intro q
    rw [spN_rows]
    have h1 : ∀ r ∈ rs, ∀ hd, (spR hd 0 r).length ≤ 22 * cW d := fun r hr hd => Nat.le_trans (spR_len fun w hw => ih r hr w hw) (Nat.mul_le_mul_right _ (c r hr))
    have h2 := spRs_len (q := q) (j := 0) h1
    have h3 : rs.length * (22 * cW d) ≤ 4 * (22 * cW d) := Nat.mul_le_mul_right _ b
    show (spRs q 0 rs).length + 1 ≤ 1 + 4 * (22 * cW d)
    omega
  | @loop d l r a f ih =>
    intro q
    rw [spN_rows]
    have h1 : ∀ hd, (spR hd 0 r).length ≤ 22 * cW d := fun hd => Nat.le_trans (spR_len fun w hw => ih w hw) (Nat.mul_le_mul_right _ a)
    have h2 := spRs_len (q := q) (j := 0) (rs := [r]) (c := 22 * cW d) fun r' hr' hd => by rw [List.mem_singleton] at hr'; subst hr'; exact h1 hd
    show (spRs q 0 [r]).length + 1 ≤ 1 + 4 * (22 * cW d)
    simp at h2
    omega
theorem row_count {r : Rw} (h : WfR ds Ws Bs d l r) (hd : List Nat) : (spR hd 0 r).length ≤ 22 * cW d := Nat.le_trans (spR_len fun w hw => sp_count (h.2 w hw)) (Nat.mul_le_mul_right _ h.1)
theorem rows_count {w : Nd} (h : WfN ds Ws Bs d l w) (q : List Nat) (j : Nat) : (spRs q 0 ((rowsN w).take j)).length + 1 ≤ cW d := by
  have := sp_count h q
  rw [spN_rows, ← List.take_append_drop j (rowsN w), spRs_app, List.length_append] at this
  omega
end
end Ds.K60
namespace Ds.K60
open PySem PySem.Spec PyProof.Rows L2 Dn TL
mutual
theorem spN_in {q : List Nat} {u : Nd} : ∀ {w : Nd} {p : List Nat}, (q, u) ∈ spN p w → ∀ x ∈ spN q u, x ∈ spN p w
  | .pl _, p, h, _, _ => by unfold spN at h; cases h
  | .choose rs, p, h, x, hx => by
    unfold spN at h ⊢
    exact spRs_in h x hx
  | .loop r, p, h, x, hx => by
    unfold spN at h ⊢
    exact spR_in h x hx
  | .out _, p, h, _, _ => by unfold spN at h; cases h
  | .risk _, p, h, _, _ => by unfold spN at h; cases h
  | .fault _, p, h, _, _ => by unfold spN at h; cases h
  | .back, p, h, _, _ => by unfold spN at h; cases h
  | .call _ _ _, p, h, _, _ => by unfold spN at h; cases h
theorem spR_in {q : List Nat} {u : Nd} : ∀ {r : List Nd} {hd : List Nat} {i : Nat}, (q, u) ∈ spR hd i r → ∀ x ∈ spN q u, x ∈ spR hd i r
  | [], hd, i, h, _, _ => by rw [spR_nil] at h; cases h
  | w :: r, hd, i, h, x, hx => by
    rw [spR_cons] at h ⊢
    rcases List.mem_cons.mp h with e | h
    · cases e
      exact List.mem_cons_of_mem _ (List.mem_append_left _ hx)
    · rcases List.mem_append.mp h with h | h
      · exact List.mem_cons_of_mem _ (List.mem_append_left _ (spN_in h x hx))
      · exact List.mem_cons_of_mem _ (List.mem_append_right _ (spR_in h x hx))
theorem spRs_in {q : List Nat} {u : Nd} : ∀ {rs : List (List Nd)} {p : List Nat} {j : Nat}, (q, u) ∈ spRs p j rs → ∀ x ∈ spN q u, x ∈ spRs p j rs
  | [], p, j, h, _, _ => by rw [spRs_nil] at h; cases h
  | r :: rs, p, j, h, x, hx => by
    rw [spRs_cons] at h ⊢
    rcases List.mem_append.mp h with h | h
    · exact List.mem_append_left _ (spR_in h x hx)
    · exact List.mem_append_right _ (spRs_in h x hx)
end
theorem at_drop {α : Type} {l m : List α} {a : α} {i : Nat} (e : a :: m = l.drop i) : l[i]? = some a ∧ m = l.drop (i + 1) := by
  have h1 : l[i]? = some a := by
    have := congrArg (fun z => z[0]?) e
    simpa using this.symm
  refine ⟨h1, ?_⟩
  have := congrArg List.tail e
  simpa [List.tail_drop] using this
mutual
theorem spN_wd {R : Rw} {q : List Nat} {u : Nd} : ∀ {w : Nd} {p : List Nat}, wdR R p = some w → (q, u) ∈ spN p w → wdR R q = some u
  | .pl _, p, _, h => by unfold spN at h; cases h
  | .choose rs, p, hw, h => by
    unfold spN at h
    exact spRs_wd hw (w := .choose rs) (j := 0) rfl h
  | .loop r, p, hw, h => by
    unfold spN at h
    exact spR_wd (rowR_of hw rfl) (i := 0) rfl h
  | .out _, p, _, h => by unfold spN at h; cases h
  | .risk _, p, _, h => by unfold spN at h; cases h
  | .fault _, p, _, h => by unfold spN at h; cases h
  | .back, p, _, h => by unfold spN at h; cases h
  | .call _ _ _, p, _, h => by unfold spN at h; cases h
theorem spR_wd {R r0 : Rw} {q : List Nat} {u : Nd} {hd : List Nat} (h0 : rowR R (0 :: hd) = some (r0, 0)) : ∀ {r : List Nd} {i : Nat}, r = r0.drop i → (q, u) ∈ spR hd i r → wdR R q = some u
  | [], i, _, h => by rw [spR_nil] at h; cases h
  | w :: r, i, e, h => by
    obtain ⟨h1, h2⟩ := at_drop e
    have hw : wdR R (i :: hd) = some w := by
      unfold wdR
      rw [rowR_step h0 (k := i)]
      exact h1
    rw [spR_cons] at h
    rcases List.mem_cons.mp h with e | h
    · cases e
      exact hw
    · rcases List.mem_append.mp h with h | h
      · exact spN_wd hw h
      · exact spR_wd h0 h2 h
theorem spRs_wd {R : Rw} {q : List Nat} {u : Nd} {p : List Nat} {w : Nd} (hw : wdR R p = some w) : ∀ {rs : List (List Nd)} {j : Nat}, rs = (rowsN w).drop j → (q, u) ∈ spRs p j rs → wdR R q = some u
  | [], j, _, h => by rw [spRs_nil] at h; cases h
  | r :: rs, j, e, h => by
    obtain ⟨h1, h2⟩ := at_drop e
    rw [spRs_cons] at h
    rcases List.mem_append.mp h with h | h
    · exact spR_wd (rowR_of hw h1) (i := 0) rfl h
    · exact spRs_wd hw h2 h
end
theorem sp_wd {R : Rw} {q : List Nat} {u : Nd} (h : (q, u) ∈ spR [] 0 R) : wdR R q = some u := spR_wd (R := R) (r0 := R) (hd := []) rfl (i := 0) rfl h
theorem spR_at {hd : List Nat} {r : Rw} {i : Nat} {w : Nd} (h : r[i]? = some w) : (i :: hd, w) ∈ spR hd 0 r := by
  have hi := (List.getElem?_eq_some_iff.mp h).1
  rw [← List.take_append_drop (i + 1) r, spR_app, spR_snoc h]
  simp
theorem spRs_at {q : List Nat} {rs : List Rw} {j : Nat} {r : Rw} (h : rs[j]? = some r) : ∀ x ∈ spR (j :: q) 0 r, x ∈ spRs q 0 rs := fun x hx => by
  rw [← List.take_append_drop (j + 1) rs, spRs_app, spRs_snoc h]
  simp [hx]
theorem wd_sp {R : Rw} : ∀ {q : List Nat} {w : Nd}, wdR R q = some w → (q, w) ∈ spR [] 0 R
  | [], w, h => by cases h
  | [i], w, h => by
    obtain ⟨r, k, h1, h2, _⟩ := wdR_some h
    cases h1
    exact spR_at h2
  | i :: j :: q, w, h => by
    obtain ⟨r, k, h1, h2, _⟩ := wdR_some h
    obtain ⟨rfl, u, h4, h5⟩ := rowR_two h1
    have hu := wd_sp h4
    refine spR_in hu _ ?_
    rw [spN_rows]
    exact spRs_at h5 _ (spR_at h2)
def wordF : Rw → List Nat → Option Nd
  | r, i :: j :: p => (r[i]?).bind fun u => ((rowsN u)[j]?).bind fun r' => wordF r' p
  | r, [i] => r[i]?
  | _, [] => none
theorem wordF_snoc {j i : Nat} : ∀ {p : List Nat} {R : Rw}, wordF R (p ++ [j, i]) = (wordF R p).bind fun u => ((rowsN u)[j]?).bind fun r' => r'[i]?
  | [], R => by
    show (R[j]?).bind (fun u => ((rowsN u)[i]?).bind fun r' => wordF r' []) = none
    cases R[j]? with
    | none => rfl
    | some u =>
      show ((rowsN u)[i]?).bind (fun r' => wordF r' []) = none
      cases (rowsN u)[i]? <;> rfl
  | [a], R => by
    show (R[a]?).bind (fun u => ((rowsN u)[j]?).bind fun r' => wordF r' [i]) = _
    rfl
  | a :: b :: p, R => by
    show (R[a]?).bind (fun u => ((rowsN u)[b]?).bind fun r' => wordF r' (p ++ [j, i])) = ((R[a]?).bind fun u => ((rowsN u)[b]?).bind fun r' => wordF r' p).bind _
    cases R[a]? with
    | none => rfl
    | some u =>
      show ((rowsN u)[b]?).bind (fun r' => wordF r' (p ++ [j, i])) = (((rowsN u)[b]?).bind fun r' => wordF r' p).bind _
      cases (rowsN u)[b]? with
      | none => rfl
      | some r' => exact wordF_snoc (p := p) (R := r')
theorem wd_F {R : Rw} : ∀ {q : List Nat}, wordF R q.reverse = wdR R q
  | [] => rfl
  | [i] => rfl
  | i :: j :: q => by
    have e : (i :: j :: q).reverse = q.reverse ++ [j, i] := by simp
    rw [e, wordF_snoc, wd_F (q := q)]
    unfold wdR
    show _ = ((rowR R q).bind fun x => (x.1[x.2]?).bind fun w => ((rowsN w)[j]?).map fun r => (r, i)).bind _
    cases rowR R q with
    | none => rfl
    | some x =>
      show ((x.1[x.2]?).bind fun u => ((rowsN u)[j]?).bind fun r' => r'[i]?) = ((x.1[x.2]?).bind fun w => ((rowsN w)[j]?).map fun r => (r, i)).bind _
      cases x.1[x.2]? with
      | none => rfl
      | some w =>
        show ((rowsN w)[j]?).bind (fun r' => r'[i]?) = (((rowsN w)[j]?).map fun r => (r, i)).bind _
        cases (rowsN w)[j]? <;> rfl
/-- the row without the word at a place, told forwards -/
def cutR : Rw → List Nat → Rw
  | r, i :: j :: p => match r[i]? with
    | some (.loop r') => r.set i (.loop (cutR r' p))
    | some (.choose rs) => match rs[j]? with
      | some r' => r.set i (.choose (rs.set j (cutR r' p)))
      | none => r
    | _ => r
  | r, [i] => r.eraseIdx i
  | r, [] => r
section
variable {ds : List Df} {Ws Bs : List Str}
theorem wf_set {d l : Nat} {r : Rw} {i : Nat} {w : Nd} (h : WfR ds Ws Bs d l r) (k : WfN ds Ws Bs d l w) : WfR ds Ws Bs d l (r.set i w) := ⟨by rw [List.length_set]; exact h.1, fun v hv => (List.mem_or_eq_of_mem_set hv).elim (h.2 v) fun e => e ▸ k⟩
theorem cut_wf : ∀ {p : List Nat} {d l : Nat} {r : Rw}, WfR ds Ws Bs d l r → WfR ds Ws Bs d l (cutR r p)
  | [], d, l, r, h => by unfold cutR; exact h
  | [i], d, l, r, h => by
    unfold cutR
    exact ⟨Nat.le_trans (List.length_eraseIdx_le _ _) h.1, fun w hw => h.2 w (List.mem_of_mem_eraseIdx hw)⟩
  | i :: j :: p, d, l, r, h => by
    unfold cutR
    cases e : r[i]? with
    | none => exact h
    | some u =>
      have hu := h.2 u (List.mem_of_getElem? e)
      cases hu with
      | @loop d2 _ r' a f =>
        dsimp only
        have := cut_wf (p := p) (r := r') (d := d2) (l := l + 1) ⟨a, f⟩
        exact wf_set h (.loop this.1 this.2)
      | @choose d2 _ rs a b c f =>
        dsimp only
        cases e2 : rs[j]? with
        | none => exact h
        | some r' =>
          have hr := List.mem_of_getElem? e2
          have := cut_wf (p := p) (r := r') (d := d2) (l := l) ⟨c r' hr, f r' hr⟩
          refine wf_set h (.choose (by rw [List.length_set]; exact a) (by rw [List.length_set]; exact b) (fun r2 hr2 => (List.mem_or_eq_of_mem_set hr2).elim (c r2) fun e => e ▸ this.1) fun r2 hr2 => (List.mem_or_eq_of_mem_set hr2).elim (f r2) fun e => e ▸ this.2)
      | _ => exact h
end
end Ds.K60
namespace Ds.K60
open PySem PySem.Spec PyProof.Rows L2 Dn TL
def plL (nm : Str) (q : List Nat) : List D := .str nm :: q.reverse.map fun i : Nat => PyData.int (i : Int)
theorem plR_L (nm : Str) (q : List Nat) : plR nm q = .tuple (plL nm q) := rfl
theorem plL_cons (nm : Str) (i : Nat) (q : List Nat) : plL nm (i :: q) = plL nm q ++ [.int (i : Int)] := by
  unfold plL
  simp
theorem plL_len (nm : Str) (q : List Nat) : (plL nm q).length = q.length + 1 := by unfold plL; simp
theorem pl_add1 {nm : Str} {q : List Nat} {i : Nat} (h : q.length ≤ 1000) : dAdd (plR nm q) (.tuple [.int (i : Int)]) = some (plR nm (i :: q)) := by
  rw [plR_L, plR_L, plL_cons]
  exact if_pos (line_of (by rw [plL_len]; show _ + 1 + 1 ≤ _; omega))
theorem pl_add2 {nm : Str} {q : List Nat} {i j : Nat} (h : q.length ≤ 1000) : dAdd (plR nm q) (.tuple [.int (i : Int), .int (j : Int)]) = some (plR nm (j :: i :: q)) := by
  rw [plR_L, plR_L, plL_cons, plL_cons, List.append_assoc]
  exact if_pos (line_of (by rw [plL_len]; show _ + 1 + 2 ≤ _; omega))
def pls (nm : Str) (xs : List (List Nat × Nd)) : List D := xs.map fun x => plR nm x.1
theorem pls_app {nm : Str} {xs ys : List (List Nat × Nd)} : pls nm (xs ++ ys) = pls nm xs ++ pls nm ys := List.map_append
theorem pls_len {nm : Str} {xs : List (List Nat × Nd)} : (pls nm xs).length = xs.length := List.length_map _
section
variable {ds : List Df} {Ws Bs : List Str} {d l : Nat}
theorem wf_rows {w : Nd} (h : WfN ds Ws Bs d l w) {r : Rw} (hr : r ∈ rowsN w) : ∃ d' l', d = d' + 1 ∧ WfR ds Ws Bs d' l' r := by
  cases h with
  | choose a b c f => exact ⟨_, _, rfl, c r hr, f r hr⟩
  | @loop d l r' a f =>
    have hr : r ∈ [r'] := hr
    rw [List.mem_singleton] at hr
    subst hr
    exact ⟨_, _, rfl, a, f⟩
  | _ => cases hr
theorem pre_count {r : Rw} {i j : Nat} {w : Nd} {hd : List Nat} (h : WfR ds Ws Bs d l r) (hw : r[i]? = some w) : (spR hd 0 (r.take i)).length + 1 + (spRs (i :: hd) 0 ((rowsN w).take j)).length ≤ 22 * cW d := by
  have hi := (List.getElem?_eq_some_iff.mp hw).1
  have h1 := spR_len (hd := hd) (c := cW d) (r := r.take i) (i := 0) fun v hv => sp_count (h.2 v (List.mem_of_mem_take hv))
  have h2 := rows_count (h.2 w (List.mem_of_getElem? hw)) (i :: hd) j
  rw [List.length_take, Nat.min_eq_left (by omega)] at h1
  have h3 : (i + 1) * cW d ≤ 22 * cW d := Nat.mul_le_mul_right _ (by have := h.1; omega)
  rw [Nat.succ_mul] at h3
  omega
theorem cW3 (h : d ≤ 3) : 22 * cW d ≤ 15164710 := Nat.mul_le_mul_left 22 (cW_mono h)
end
end Ds.K60
namespace Ds.K60
open PySem PySem.Spec PyProof.Rows L2 Dn TL
section
variable {ds : List Df} {Ws Bs : List Str}
def PfI (r : Rw) (nm : Str) (hd : List Nat) (s : St) (i : Nat) (e : Ev) (s' : St) : Prop := Fz s s' ∧ s'[s.length]? = some (.lst ((pls nm (spR hd 0 (r.take i))).map Cl.sh)) ∧ ∃ z3 z4 z5 z6, e = [.sh (.tuple (encR r)), .sh (plR nm hd), .lo s.length, z3, z4, z5, z6]
theorem places_from_ {nm : Str} : ∀ (k d : Nat) {l : Nat} {r : Rw} {hd : List Nat} {s : St} {Q : Cl → St → Prop}, d < k → d ≤ 3 → WfR ds Ws Bs d l r → hd.length + 2 * d ≤ 100 → (∀ s', Fz s s' → Q (.sh (.list (pls nm (spR hd 0 r)))) s') → FRun (f_G5 k 0) [.sh (.tuple (encR r)), .sh (plR nm hd)] s Q
  | 0, d, _, _, _, _, _, h, _, _, _, _ => by omega
  | k + 1, d, l, r, hd, s, Q, h, hd3, W, hl, q => by
    refine frun_fn rfl ?_
    unfold m_places_from
    repeat walk_at "ds"
    refine run_forL _ (PfI r nm hd s) ⟨Fz.app, by rw [List.take_zero, spR_nil]; exact app_new, _, _, _, _, rfl⟩ (fun i x e s' hx hI => ?_) fun e s' hI => ?_
    · obtain ⟨F, at1, z3, z4, z5, z6, rfl⟩ := hI
      obtain ⟨y, hy, rfl⟩ := enum_at hx
      rw [encR_map, List.getElem?_map] at hy
      obtain ⟨w, hw, rfl⟩ := Option.map_eq_some_iff.mp hy
      have Ww := W.2 w (List.mem_of_getElem? hw)
      have c0 := cW3 hd3
      refine ⟨_, rfl, ?_⟩
      repeat walk_at "ds"
      refine ⟨_, at1, ?_⟩
      repeat walk_at "ds"
      refine ⟨_, pl_add1 (by omega), ?_⟩
      repeat walk_at "ds"
      refine ⟨_, at1, ?_⟩
      have pc0 := pre_count (j := 0) (hd := hd) W hw
      have e3 : (pls nm (spR hd 0 (r.take i))).map Cl.sh ++ [Cl.sh (plR nm (i :: hd))] = (pls nm (spR hd 0 (r.take i) ++ (i :: hd, w) :: spRs (i :: hd) 0 ((rowsN w).take 0))).map Cl.sh := by
        rw [List.take_zero, spRs_nil, pls_app]
        simp [pls]
      refine ⟨by rw [List.length_map, pls_len]; show _ < 16777216; omega, ?_⟩
      rw [e3]
      have F2 := F.put (o := .lst ((pls nm (spR hd 0 (r.take i) ++ (i :: hd, w) :: spRs (i :: hd) 0 ((rowsN w).take 0))).map Cl.sh)) (Nat.le_refl s.length)
      have at2 := set_same (s := s') (o := .lst ((pls nm (spR hd 0 (r.take i) ++ (i :: hd, w) :: spRs (i :: hd) 0 ((rowsN w).take 0))).map Cl.sh)) (lt_of_at at1)
      generalize s'.set s.length (.lst ((pls nm (spR hd 0 (r.take i) ++ (i :: hd, w) :: spRs (i :: hd) 0 ((rowsN w).take 0))).map Cl.sh)) = s2 at F2 at2 ⊢
      repeat walk_at "ds"
      refine rows_in_ ?_
      repeat walk_at "ds"
      refine run_forL _ (fun j e s' => Fz s s' ∧ s'[s.length]? = some (.lst ((pls nm (spR hd 0 (r.take i) ++ (i :: hd, w) :: spRs (i :: hd) 0 ((rowsN w).take j))).map Cl.sh)) ∧ ∃ z5 z6, e = [.sh (.tuple (encR r)), .sh (plR nm hd), .lo s.length, .sh (.int (i : Int)), .sh (encN w), z5, z6]) ⟨F2, at2, _, _, rfl⟩ (fun j x e s' hx hI => ?_) fun e s' hI => ?_
      · obtain ⟨F3, at3, z5, z6, rfl⟩ := hI
        obtain ⟨y, hy, rfl⟩ := enum_at hx
        rw [encRs_map, List.getElem?_map] at hy
        obtain ⟨r2, hr2, rfl⟩ := Option.map_eq_some_iff.mp hy
        obtain ⟨d', l', rfl, W2⟩ := wf_rows Ww (List.mem_of_getElem? hr2)
        refine ⟨_, rfl, ?_⟩
        repeat walk_at "ds"
        refine ⟨_, at3, ?_⟩
        repeat walk_at "ds"
        refine ⟨_, pl_add2 (by omega), ?_⟩
        repeat walk_at "ds"
        refine places_from_ k d' (by omega) (by omega) W2 (by simp; omega) fun s4 F4 => ?_
        have at4 := (F4.2 _ (lt_of_at at3)).trans at3
        have F34 := F3.trans F4
        have pc := pre_count (j := j + 1) (hd := hd) W hw
        rw [spRs_snoc hr2, List.length_append] at pc
        repeat walk_at "ds"
        refine ⟨_, _, _, at4, rfl, rfl, ?_, ?_⟩
        · rw [List.length_map, pls_len, pls_len, List.length_append, List.length_cons]
          exact line_of (by omega)
        have e4 : (pls nm (spR hd 0 (r.take i) ++ (i :: hd, w) :: spRs (i :: hd) 0 ((rowsN w).take j))).map Cl.sh ++ (pls nm (spR (j :: i :: hd) 0 r2)).map Cl.sh = (pls nm (spR hd 0 (r.take i) ++ (i :: hd, w) :: spRs (i :: hd) 0 ((rowsN w).take (j + 1)))).map Cl.sh := by
          rw [spRs_snoc hr2, ← List.map_append, ← pls_app, List.append_assoc, List.cons_append]
        rw [e4]
        exact turn_nx ⟨F34.put (Nat.le_refl _), set_same (lt_of_at at4), _, _, rfl⟩
      · obtain ⟨F3, at3, z5, z6, rfl⟩ := hI
        have el : (enumD (encRs (rowsN w))).length = (rowsN w).length := by unfold enumD; simp [encRs_map]
        rw [el, List.take_length, ← spN_rows, ← spR_snoc hw] at at3
        exact turn_nx ⟨F3, at3, _, _, _, _, rfl⟩
    · obtain ⟨F, at1, z3, z4, z5, z6, rfl⟩ := hI
      have el : (enumD (encR r)).length = r.length := by unfold enumD; simp [encR_map]
      rw [el, List.take_length] at at1
      repeat walk_at "ds"
      refine ⟨_, _, at1, shL_map _, ?_⟩
      repeat walk_at "ds"
      exact q _ (F.put (Nat.le_refl _)).trim
theorem places_of_ {P : Pg} {nm : Str} {R : Rw} {l : Nat} {s : St} {Q : Cl → St → Prop} (HR : rowOf P nm = some R) (W : WfR ds Ws Bs 3 l R) (q : ∀ s', Fz s s' → Q (.sh (.tuple (pls nm (spR [] 0 R) ++ [plR nm [R.length]]))) s') : FRun f_places_of [.sh (wholeP P), .sh (.str nm)] s Q := by
  refine frun_fn rfl ?_
  unfold m_places_of
  repeat walk_at "ds"
  refine row_of_ HR ?_
  repeat walk_at "ds"
  refine places_from_ (hd := []) 14 3 (by decide) (by decide) W (by decide) fun s1 F1 => ?_
  repeat walk_at "ds"
  have h1 := row_count W []
  have h2 := cW3 (Nat.le_refl 3)
  refine bx_add_lst (line_of (by rw [pls_len]; show _ + 1 ≤ _; omega)) ?_
  repeat walk_at "ds"
  rw [encR_len]
  exact q _ F1.trim
def tlW : Nd → List D
  | .pl v => match v with
    | .take x w => [.str x, .str w]
    | .ask x => [.str x]
    | .number x n => [.str x, .int n]
    | .copy x y => [.str x, .str y]
    | .mix x y z => [.str x, .str y, .str z]
    | .opn x y => [.str x, .str y]
    | .tell x => [.str x]
    | .wipe x => [.str x]
    | .clear x => [.str x]
    | .drop xs => [.tuple (xs.map PyData.str)]
  | .choose rs => [.tuple (encRs rs)]
  | .loop r => [.tuple (encR r)]
  | .out n => [.int n]
  | .risk x => [.str x]
  | .fault x => [.str x]
  | .back => []
  | .call f as gs => [.str f, .tuple (as.map PyData.str), .tuple (gs.map PyData.str)]
theorem enc_tl (w : Nd) : encN w = .tuple (.str (kwN w) :: tlW w) := by
  cases w with
  | pl v => unfold encN; cases v <;> rfl
  | _ => unfold encN; rfl
theorem last_some {a : D} {l : List D} : ∃ dl, dIx (.tuple (a :: l)) (.int (-1)) = some dl := by
  refine ⟨(a :: l)[l.length]'(by simp), ?_⟩
  show atI (a :: l) (-1) = _
  unfold atI ixN
  rw [if_neg (by omega), if_pos (by rw [List.length_cons]; omega)]
  show (a :: l)[((-1 : Int) + ((a :: l).length : Nat)).toNat]? = _
  have e : ((-1 : Int) + ((a :: l).length : Nat)).toNat = l.length := by rw [List.length_cons]; omega
  rw [e]
  exact List.getElem?_eq_getElem (by simp)
theorem last_one {a b : D} : dIx (.tuple [a, b]) (.int (-1)) = some b := rfl
theorem get_rows (w : Nd) {dl : D} (e : dIx (.tuple (.str (kwN w) :: tlW w)) (.int (-1)) = some dl) : (valC (mergeC [] ([(Sum.inr (Str.ofString "loop"), Cl.sh (.tuple (Dn.cutD (.str (kwN w) :: tlW w) (some 1) none))), (Sum.inr (Str.ofString "choose"), Cl.sh dl)] : List (Key × Cl))) (Sum.inr (kwN w))).getD (Cl.sh (.tuple [])) = Cl.sh (.tuple (encRs (rowsN w))) := by
  cases w with
  | pl v => cases v <;> (show _ = Cl.sh (.tuple (encRs []))) <;> (unfold encRs) <;> rfl
  | choose rs =>
    have e : dIx (.tuple [.str "choose", .tuple (encRs rs)]) (.int (-1)) = some dl := e
    rw [last_one] at e
    cases e
    rfl
  | loop r =>
    have e2 : encRs (rowsN (.loop r)) = [.tuple (encR r)] := by rw [encRs_map]; rfl
    rw [e2]
    rfl
  | _ => (show _ = Cl.sh (.tuple (encRs []))) <;> (unfold encRs) <;> rfl
def PsI (r : Rw) (nm : Str) (hd : List Nat) (s : St) (i : Nat) (e : Ev) (s' : St) : Prop := Fz s s' ∧ s'[s.length]? = some (.lst ((pls nm (spR hd 0 (r.take i))).map Cl.sh)) ∧ ∃ z3 z4 z5 z6 z7, e = [.sh (.tuple (encR r)), .sh (plR nm hd), .lo s.length, z3, z4, z5, z6, z7]
theorem law_spots_ {nm : Str} : ∀ (k d : Nat) {l : Nat} {r : Rw} {hd : List Nat} {s : St} {Q : Cl → St → Prop}, d < k → d ≤ 3 → WfR ds Ws Bs d l r → hd.length + 2 * d ≤ 100 → (∀ s', Fz s s' → Q (.sh (.list (pls nm (spR hd 0 r)))) s') → FRun (f_G24 k 0) [.sh (.tuple (encR r)), .sh (plR nm hd)] s Q
  | 0, d, _, _, _, _, _, h, _, _, _, _ => by omega
  | k + 1, d, l, r, hd, s, Q, h, hd3, W, hl, q => by
    refine frun_fn rfl ?_
    unfold m__law_spots
    repeat walk_at "ds"
    refine run_forL _ (PsI r nm hd s) ⟨Fz.app, by rw [List.take_zero, spR_nil]; exact app_new, _, _, _, _, _, rfl⟩ (fun i x e s' hx hI => ?_) fun e s' hI => ?_
    · obtain ⟨F, at1, z3, z4, z5, z6, z7, rfl⟩ := hI
      obtain ⟨y, hy, rfl⟩ := enum_at hx
      rw [encR_map, List.getElem?_map] at hy
      obtain ⟨w, hw, rfl⟩ := Option.map_eq_some_iff.mp hy
      have Ww := W.2 w (List.mem_of_getElem? hw)
      have c0 := cW3 hd3
      refine ⟨_, rfl, ?_⟩
      repeat walk_at "ds"
      refine ⟨_, at1, ?_⟩
      repeat walk_at "ds"
      refine ⟨_, pl_add1 (by omega), ?_⟩
      repeat walk_at "ds"
      refine ⟨_, at1, ?_⟩
      have pc0 := pre_count (j := 0) (hd := hd) W hw
      have e3 : (pls nm (spR hd 0 (r.take i))).map Cl.sh ++ [Cl.sh (plR nm (i :: hd))] = (pls nm (spR hd 0 (r.take i) ++ (i :: hd, w) :: spRs (i :: hd) 0 ((rowsN w).take 0))).map Cl.sh := by
        rw [List.take_zero, spRs_nil, pls_app]
        simp [pls]
      refine ⟨by rw [List.length_map, pls_len]; show _ < 16777216; omega, ?_⟩
      rw [e3]
      have F2 := F.put (o := .lst ((pls nm (spR hd 0 (r.take i) ++ (i :: hd, w) :: spRs (i :: hd) 0 ((rowsN w).take 0))).map Cl.sh)) (Nat.le_refl s.length)
      have at2 := set_same (s := s') (o := .lst ((pls nm (spR hd 0 (r.take i) ++ (i :: hd, w) :: spRs (i :: hd) 0 ((rowsN w).take 0))).map Cl.sh)) (lt_of_at at1)
      generalize s'.set s.length (.lst ((pls nm (spR hd 0 (r.take i) ++ (i :: hd, w) :: spRs (i :: hd) 0 ((rowsN w).take 0))).map Cl.sh)) = s2 at F2 at2 ⊢
      have hdl := last_some (a := .str (kwN w)) (l := tlW w)
      obtain ⟨dl, edl⟩ := hdl
      have egr := get_rows w edl
      rw [enc_tl]
      repeat walk_at "ds"
      refine ⟨_, edl, ?_⟩
      repeat walk_at "ds"
      refine ⟨_, app_new, ?_⟩
      repeat walk_at "ds"
      refine ⟨_, at0, ?_⟩
      repeat walk_at "ds"
      refine ⟨_, _, app_new, rfl, ?_⟩
      rw [egr]
      repeat walk_at "ds"
      have F2 := F2.trans (Fz.app (o := Ob.dk (mergeC [] [(Sum.inr (Str.ofString "loop"), Cl.sh (.tuple (Dn.cutD (.str (kwN w) :: tlW w) (some 1) none))), (Sum.inr (Str.ofString "choose"), Cl.sh dl)])))
      have at2 := (app_old (o := Ob.dk (mergeC [] [(Sum.inr (Str.ofString "loop"), Cl.sh (.tuple (Dn.cutD (.str (kwN w) :: tlW w) (some 1) none))), (Sum.inr (Str.ofString "choose"), Cl.sh dl)])) (lt_of_at at2)).trans at2
      generalize s2 ++ [Ob.dk (mergeC [] [(Sum.inr (Str.ofString "loop"), Cl.sh (.tuple (Dn.cutD (.str (kwN w) :: tlW w) (some 1) none))), (Sum.inr (Str.ofString "choose"), Cl.sh dl)])] = s3 at F2 at2 ⊢
      refine run_forL _ (fun j e s' => Fz s s' ∧ s'[s.length]? = some (.lst ((pls nm (spR hd 0 (r.take i) ++ (i :: hd, w) :: spRs (i :: hd) 0 ((rowsN w).take j))).map Cl.sh)) ∧ ∃ z5 z6 z7, e = [.sh (.tuple (encR r)), .sh (plR nm hd), .lo s.length, .sh (.int (i : Int)), .sh (.tuple (.str (kwN w) :: tlW w)), z5, z6, z7]) ⟨F2, at2, _, _, _, rfl⟩ (fun j x e s' hx hI => ?_) fun e s' hI => ?_
      · obtain ⟨F3, at3, z5, z6, z7, rfl⟩ := hI
        obtain ⟨y, hy, rfl⟩ := enum_at hx
        rw [encRs_map, List.getElem?_map] at hy
        obtain ⟨r2, hr2, rfl⟩ := Option.map_eq_some_iff.mp hy
        obtain ⟨d', l', rfl, W2⟩ := wf_rows Ww (List.mem_of_getElem? hr2)
        refine ⟨_, rfl, ?_⟩
        repeat walk_at "ds"
        refine ⟨_, at3, ?_⟩
        repeat walk_at "ds"
        refine ⟨_, pl_add2 (by omega), ?_⟩
        repeat walk_at "ds"
        refine law_spots_ k d' (by omega) (by omega) W2 (by simp; omega) fun s4 F4 => ?_
        have at4 := (F4.2 _ (lt_of_at at3)).trans at3
        have F34 := F3.trans F4
        have pc := pre_count (j := j + 1) (hd := hd) W hw
        rw [spRs_snoc hr2, List.length_append] at pc
        repeat walk_at "ds"
        refine ⟨_, _, _, at4, rfl, rfl, ?_, ?_⟩
        · rw [List.length_map, pls_len, pls_len, List.length_append, List.length_cons]
          exact line_of (by omega)
        have e4 : (pls nm (spR hd 0 (r.take i) ++ (i :: hd, w) :: spRs (i :: hd) 0 ((rowsN w).take j))).map Cl.sh ++ (pls nm (spR (j :: i :: hd) 0 r2)).map Cl.sh = (pls nm (spR hd 0 (r.take i) ++ (i :: hd, w) :: spRs (i :: hd) 0 ((rowsN w).take (j + 1)))).map Cl.sh := by
          rw [spRs_snoc hr2, ← List.map_append, ← pls_app, List.append_assoc, List.cons_append]
        rw [e4]
        exact turn_nx ⟨F34.put (Nat.le_refl _), set_same (lt_of_at at4), _, _, _, rfl⟩
      · obtain ⟨F3, at3, z5, z6, z7, rfl⟩ := hI
        have el : (enumD (encRs (rowsN w))).length = (rowsN w).length := by unfold enumD; simp [encRs_map]
        rw [el, List.take_length, ← spN_rows, ← spR_snoc hw] at at3
        exact turn_nx ⟨F3, at3, _, _, _, _, _, rfl⟩
    · obtain ⟨F, at1, z3, z4, z5, z6, z7, rfl⟩ := hI
      have el : (enumD (encR r)).length = r.length := by unfold enumD; simp [encR_map]
      rw [el, List.take_length] at at1
      repeat walk_at "ds"
      refine ⟨_, _, at1, shL_map _, ?_⟩
      repeat walk_at "ds"
      exact q _ (F.put (Nat.le_refl _)).trim
end
end Ds.K60
namespace Ds.K60
open PySem PySem.Spec PyProof.Rows L2 Dn TL
def allP (P : Pg) : List D := (P.ds.flatMap fun d => pls d.nm (spR [] 0 d.row)) ++ pls "" (spR [] 0 P.main)
section
variable {Ws Bs : List Str}
/-- a right program -/
structure PgOk (Ws Bs : List Str) (P : Pg) : Prop where
  np : Nms P
  bs : ∀ x ∈ Bs, Bxo x
  ds : ∀ e ∈ P.ds, Ok 10 e.nm ∧ (∀ x ∈ e.ps, x ∈ Bs) ∧ (∀ x ∈ e.rs, x ∈ Bs) ∧ WfR P.ds Ws Bs 2 0 e.row
  main : WfR P.ds Ws Bs 3 0 P.main
  dl : P.ds.length ≤ 6
theorem PgOk.row {P : Pg} (h : PgOk Ws Bs P) {nm : Str} {R : Rw} (e : rowOf P nm = some R) : WfR P.ds Ws Bs 3 0 R := by
  unfold rowOf at e
  by_cases z : nm = ""
  · rw [if_pos z] at e
    cases e
    exact h.main
  · rw [if_neg z] at e
    obtain ⟨d, hd, rfl⟩ := Option.map_eq_some_iff.mp e
    exact (h.ds d (List.mem_of_find?_eq_some hd)).2.2.2.up
theorem PgOk.nm {P : Pg} (h : PgOk Ws Bs P) {nm : Str} {R : Rw} (e : rowOf P nm = some R) : Ok 10 nm := by
  unfold rowOf at e
  by_cases z : nm = ""
  · rw [z]; exact Ok.lit _ _ (by decide)
  · rw [if_neg z] at e
    obtain ⟨d, hd, _⟩ := Option.map_eq_some_iff.mp e
    have k := of_decide_eq_true (List.find?_some (p := fun x : Df => decide (x.nm = nm)) hd)
    rw [← k]
    exact (h.ds d (List.mem_of_find?_eq_some hd)).1
theorem row_df {P : Pg} (NP : Nms P) {d : Df} (h : d ∈ P.ds) : rowOf P d.nm = some d.row := by
  unfold rowOf
  rw [if_neg (NP.ne d h)]
  unfold defOf
  rw [find_one NP.nd h]
  rfl
theorem row_main {P : Pg} : rowOf P "" = some P.main := by unfold rowOf; rw [if_pos rfl]
/-- each is a place of a word -/
theorem allP_mem {P : Pg} (NP : Nms P) {x : D} (h : x ∈ allP P) : ∃ nm R q w, x = plR nm q ∧ rowOf P nm = some R ∧ wdR R q = some w := by
  rcases List.mem_append.mp h with h | h
  · obtain ⟨d, hd, h⟩ := List.mem_flatMap.mp h
    obtain ⟨⟨q, w⟩, hq, rfl⟩ := List.mem_map.mp h
    exact ⟨d.nm, d.row, q, w, rfl, row_df NP hd, sp_wd hq⟩
  · obtain ⟨⟨q, w⟩, hq, rfl⟩ := List.mem_map.mp h
    exact ⟨"", P.main, q, w, rfl, row_main, sp_wd hq⟩
theorem flat_len {P : Pg} (h : PgOk Ws Bs P) (C : List Df) (hC : ∀ d ∈ C, d ∈ P.ds) : (C.flatMap fun d => pls d.nm (spR [] 0 d.row)).length ≤ C.length * 172326 := by
  induction C with
  | nil => exact Nat.zero_le _
  | cons d C ih =>
    have := ih fun e he => hC e (List.mem_cons_of_mem _ he)
    have h1 := row_count (h.ds d (hC d List.mem_cons_self)).2.2.2 []
    rw [List.flatMap_cons, List.length_append, pls_len, List.length_cons, Nat.succ_mul]
    have : 22 * cW 2 = 172326 := rfl
    omega
end
end Ds.K60
namespace Ds.K60
open PySem PySem.Spec PyProof.Rows L2 Dn TL
section
variable {Ws Bs : List Str} {P : Pg} {s : St} {Q : Cl → St → Prop}
theorem all_spots_ (PO : PgOk Ws Bs P) (q : ∀ s', Fz s s' → Q (.sh (.list (allP P))) s') : FRun f__law_all_spots [.sh (wholeP P)] s Q := by
  refine frun_fn rfl ?_
  unfold m__law_all_spots wholeP
  repeat walk_at "ds"
  refine run_forL _ (fun i e s' => Fz s s' ∧ s'[s.length]? = some (.lst (((P.ds.take i).flatMap fun d => pls d.nm (spR [] 0 d.row)).map Cl.sh)) ∧ ∃ z2, e = [.sh (.tuple [.tuple (P.ds.map encD), .tuple (encR P.main)]), .lo s.length, z2]) ⟨Fz.app, app_new, _, rfl⟩ (fun i x e s' hx hI => ?_) fun e s' hI => ?_
  · obtain ⟨F, at1, z2, rfl⟩ := hI
    rw [List.getElem?_map] at hx
    obtain ⟨d, hd, rfl⟩ := Option.map_eq_some_iff.mp hx
    have hdm := List.mem_of_getElem? hd
    have hi := (List.getElem?_eq_some_iff.mp hd).1
    obtain ⟨o1, o2, o3, W⟩ := PO.ds d hdm
    refine ⟨_, rfl, ?_⟩
    unfold encD
    repeat walk_at "ds"
    refine ⟨_, at1, ?_⟩
    repeat walk_at "ds"
    refine law_spots_ (hd := []) 14 2 (by decide) (by decide) W (by decide) fun s2 F2 => ?_
    have at2 := (F2.2 _ (lt_of_at at1)).trans at1
    have F3 := F.trans F2
    repeat walk_at "ds"
    have c1 := flat_len PO (P.ds.take i) fun e he => List.mem_of_mem_take he
    have c2 := row_count W []
    have c3 : 22 * cW 2 = 172326 := rfl
    have c4 := PO.dl
    rw [List.length_take, Nat.min_eq_left (by omega)] at c1
    refine ⟨_, _, _, at2, rfl, rfl, line_of (by rw [List.length_map, pls_len]; omega), ?_⟩
    have e4 : ((P.ds.take i).flatMap fun d => pls d.nm (spR [] 0 d.row)).map Cl.sh ++ (pls d.nm (spR [] 0 d.row)).map Cl.sh = ((P.ds.take (i + 1)).flatMap fun d => pls d.nm (spR [] 0 d.row)).map Cl.sh := by
      rw [List.take_succ, hd, List.flatMap_append, ← List.map_append]
      simp
    rw [e4]
    exact turn_nx ⟨F3.put (Nat.le_refl _), set_same (lt_of_at at2), _, rfl⟩
  · obtain ⟨F, at1, z2, rfl⟩ := hI
    rw [List.length_map, List.take_length] at at1
    repeat walk_at "ds"
    refine law_spots_ (nm := "") (hd := []) 14 3 (by decide) (by decide) PO.main (by decide) fun s2 F2 => ?_
    have at2 := (F2.2 _ (lt_of_at at1)).trans at1
    repeat walk_at "ds"
    have c1 := flat_len PO P.ds fun e he => he
    have c2 := row_count PO.main []
    have c3 : 22 * cW 3 = 15164710 := rfl
    have c4 := PO.dl
    refine ⟨_, _, snap_list at2, rfl, line_of (by rw [pls_len]; omega), _, shL_map _, ?_⟩
    repeat walk_at "ds"
    exact q _ (F.trans F2).trim
end
end Ds.K60
namespace Ds.K60
open PySem PySem.Spec PyProof.Rows L2 Dn TL
def intsP (p : List Nat) : List D := p.map fun i : Nat => PyData.int (i : Int)
theorem enc_erase {r : Rw} {i : Nat} : (encR r).take i ++ (encR r).drop (i + 1) = encR (r.eraseIdx i) := by
  rw [encR_map, encR_map, List.eraseIdx_eq_take_drop_succ, List.map_append, List.map_take, List.map_drop]
theorem enc_set {r : Rw} {i : Nat} {u : Nd} (h : i < r.length) : (encR r).take i ++ [encN u] ++ (encR r).drop (i + 1) = encR (r.set i u) := by
  rw [encR_map, encR_map, List.set_eq_take_append_cons_drop, if_pos h, List.map_append, List.map_cons, List.map_take, List.map_drop]
  simp
theorem encRs_set {rs : List Rw} {j : Nat} {r : Rw} : (encRs rs).set j (.tuple (encR r)) = encRs (rs.set j r) := by
  rw [encRs_map, encRs_map, List.map_set]
theorem wf_cons {a b : Nat} {p : List Nat} {r : Rw} {w : Nd} (h : wordF r (a :: b :: p) = some w) : ∃ u r', r[a]? = some u ∧ (rowsN u)[b]? = some r' ∧ wordF r' p = some w := by
  have h : (r[a]?).bind (fun u => ((rowsN u)[b]?).bind fun r' => wordF r' p) = some w := h
  obtain ⟨u, h1, h2⟩ := Option.bind_eq_some_iff.mp h
  obtain ⟨r', h3, h4⟩ := Option.bind_eq_some_iff.mp h2
  exact ⟨u, r', h1, h3, h4⟩
theorem cut_loop {r r' : Rw} {i j : Nat} {p : List Nat} (h : r[i]? = some (.loop r')) : cutR r (i :: j :: p) = r.set i (.loop (cutR r' p)) := by
  rw [cutR, h]
theorem cut_choose {r r' : Rw} {rs : List Rw} {i j : Nat} {p : List Nat} (h : r[i]? = some (.choose rs)) (k : rs[j]? = some r') : cutR r (i :: j :: p) = r.set i (.choose (rs.set j (cutR r' p))) := by
  rw [cutR, h]
  dsimp only
  rw [k]
theorem ints_drop {a b : Nat} {p : List Nat} : Dn.cutD (.int (a : Int) :: .int (b : Int) :: intsP p) (some 2) none = intsP p := by
  rw [show (2 : Int) = ((2 : Nat) : Int) from rfl, cut_hi]
  rfl
theorem ix1c {a b : D} {l : List D} : dIx (.tuple (a :: b :: l)) (.int 1) = some b := by
  show atI (a :: b :: l) 1 = some b
  unfold atI ixN
  rw [if_pos (by omega), if_pos (by rw [List.length_cons, List.length_cons]; omega)]
  rfl
theorem at_rows {rs : List Rw} {j : Nat} {r : Rw} (h : rs[j]? = some r) : atI ((encRs rs).map Cl.sh) (j : Int) = some (.sh (.tuple (encR r))) := by
  have hj := (List.getElem?_eq_some_iff.mp h).1
  unfold atI ixN
  rw [if_pos (by omega), if_pos (by rw [List.length_map, encRs_map, List.length_map]; omega)]
  show ((encRs rs).map Cl.sh)[((j : Int)).toNat]? = _
  rw [Int.toNat_natCast, List.getElem?_map, encRs_get h]
  rfl
theorem ixN_nat {n j : Nat} (h : j < n) : ixN n (j : Int) = some j := by
  unfold ixN
  rw [if_pos (by omega), if_pos (by omega), Int.toNat_natCast]
theorem sets_rows {rs : List Rw} {j : Nat} {r : Rw} : ((encRs rs).map Cl.sh).set j (.sh (.tuple (encR r))) = (encRs (rs.set j r)).map Cl.sh := by
  rw [← List.map_set, encRs_set]
theorem int1 (i : Nat) : ((i : Int) + 1) = ((i + 1 : Nat) : Int) := rfl
end Ds.K60
namespace Ds.K60
open PySem PySem.Spec PyProof.Rows L2 Dn TL
section
variable {ds : List Df} {Ws Bs : List Str}
theorem row_without_ : ∀ (k : Nat) {p : List Nat} {d l : Nat} {r : Rw} {w : Nd} {s : St} {Q : Cl → St → Prop}, p.length < 2 * k → WfR ds Ws Bs d l r → wordF r p = some w → (∀ s', Fz s s' → Q (.sh (.tuple (encR (cutR r p)))) s') → FRun (f_G9 k 0) [.sh (.tuple (encR r)), .sh (.tuple (intsP p))] s Q
  | 0, p, d, l, r, w, s, Q, h, W, hw, q => by omega
  | k + 1, [], d, l, r, w, s, Q, h, W, hw, q => by cases hw
  | k + 1, [i], d, l, r, w, s, Q, h, W, hw, q => by
    have hw : r[i]? = some w := hw
    have hi := (List.getElem?_eq_some_iff.mp hw).1
    have hl := W.1
    show FRun _ [.sh (.tuple (encR r)), .sh (.tuple [.int (i : Int)])] s Q
    refine frun_fn rfl ?_
    unfold m_row_without
    repeat walk_at "ds"
    rw [int1, cut_lo, cut_hi]
    refine bx_add_tup (line_of (by rw [List.length_take, List.length_drop, encR_len]; omega)) ?_
    repeat walk_at "ds"
    rw [enc_erase, trim_len rfl]
    exact q s (.refl s)
  | k + 1, i :: j :: p, d, l, r, w, s, Q, h, W, hw, q => by
    obtain ⟨u, r', h1, h2, h3⟩ := wf_cons hw
    have hi := (List.getElem?_eq_some_iff.mp h1).1
    have hl := W.1
    have Wu := W.2 u (List.mem_of_getElem? h1)
    obtain ⟨d', l', rfl, W'⟩ := wf_rows Wu (List.mem_of_getElem? h2)
    show FRun _ [.sh (.tuple (encR r)), .sh (.tuple (.int (i : Int) :: .int (j : Int) :: intsP p))] s Q
    refine frun_fn rfl ?_
    unfold m_row_without
    repeat walk_at "ds"
    refine ⟨_, at0, ?_⟩
    repeat walk_at "ds"
    refine two_dec (fun h => by simp only [List.length_cons] at h; omega) (fun _ => ?_)
    repeat walk_at "ds"
    refine ⟨_, ix_at (encR_get h1), ?_⟩
    rcases wd_rows h2 with ⟨rs, rfl, hrs⟩ | ⟨rfl, rfl⟩
    · have ew : encN (.choose rs) = .tuple [.str "choose", .tuple (encRs rs)] := by unfold encN; rfl
      rw [ew]
      repeat walk_at "ds"
      refine ⟨_, _, rfl, rfl, ?_⟩
      repeat walk_at "ds"
      have F1 : Fz s (s ++ [Ob.lst ((encRs rs).map Cl.sh)]) := Fz.app
      have a1 : (s ++ [Ob.lst ((encRs rs).map Cl.sh)])[s.length]? = some (.lst ((encRs rs).map Cl.sh)) := app_new
      generalize s ++ [Ob.lst ((encRs rs).map Cl.sh)] = s1 at F1 a1 ⊢
      refine ⟨_, ix1c, ?_⟩
      refine ⟨_, ixC_lo a1 (at_rows hrs), ?_⟩
      repeat walk_at "ds"
      rw [ints_drop]
      refine row_without_ k (by simp at h; omega) W' h3 fun s2 F2 => ?_
      have a2 := (F2.2 _ (lt_of_at a1)).trans a1
      repeat walk_at "ds"
      refine ⟨_, ix1c, ?_⟩
      refine ⟨_, _, j, a2, rfl, ixN_nat (by rw [List.length_map, encRs_map, List.length_map]; exact (List.getElem?_eq_some_iff.mp hrs).1), ?_⟩
      rw [sets_rows]
      have F3 := (F1.trans F2).put (o := .lst ((encRs (rs.set j (cutR r' p))).map Cl.sh)) (Nat.le_refl s.length)
      have a3 := set_same (s := s2) (o := .lst ((encRs (rs.set j (cutR r' p))).map Cl.sh)) (lt_of_at a2)
      generalize s2.set s.length (.lst ((encRs (rs.set j (cutR r' p))).map Cl.sh)) = s3 at F3 a3 ⊢
      repeat walk_at "ds"
      refine ⟨_, _, snap_list a3, rfl, ?_⟩
      repeat walk_at "ds"
      have e := enc_set (u := .choose (rs.set j (cutR r' p))) hi
      rw [← cut_choose h1 hrs, show encN (.choose (rs.set j (cutR r' p))) = .tuple [.str "choose", .tuple (encRs (rs.set j (cutR r' p)))] by unfold encN; rfl] at e
      rw [cut_lo]
      refine bx_add_tup (line_of (by rw [List.length_take, encR_len]; show _ + 1 ≤ _; omega)) ?_
      repeat walk_at "ds"
      rw [int1, cut_hi]
      refine bx_add_tup (line_of (by rw [List.length_append, List.length_take, List.length_drop, encR_len]; show _ + 1 + _ ≤ _; omega)) ?_
      repeat walk_at "ds"
      rw [e]
      exact q _ F3.trim
    · have ew : encN (.loop r') = .tuple [.str "loop", .tuple (encR r')] := by unfold encN; rfl
      rw [ew]
      repeat walk_at "ds"
      rw [ints_drop]
      refine row_without_ k (by simp at h; omega) W' h3 fun s2 F2 => ?_
      repeat walk_at "ds"
      have e := enc_set (u := .loop (cutR r' p)) hi
      rw [← cut_loop (j := 0) h1, show encN (.loop (cutR r' p)) = .tuple [.str "loop", .tuple (encR (cutR r' p))] by unfold encN; rfl] at e
      rw [cut_lo]
      refine bx_add_tup (line_of (by rw [List.length_take, encR_len]; show _ + 1 ≤ _; omega)) ?_
      repeat walk_at "ds"
      rw [int1, cut_hi]
      refine bx_add_tup (line_of (by rw [List.length_append, List.length_take, List.length_drop, encR_len]; show _ + 1 + _ ≤ _; omega)) ?_
      repeat walk_at "ds"
      rw [e]
      exact q _ F2.trim
theorem law_cut_ : ∀ (k : Nat) {p : List Nat} {d l : Nat} {r : Rw} {w : Nd} {s : St} {Q : Cl → St → Prop}, p.length < 2 * k → WfR ds Ws Bs d l r → wordF r p = some w → (∀ s', Fz s s' → Q (.sh (.tuple (encR (cutR r p)))) s') → FRun (f_G26 k 0) [.sh (.tuple (encR r)), .sh (.tuple (intsP p))] s Q
  | 0, p, d, l, r, w, s, Q, h, W, hw, q => by omega
  | k + 1, [], d, l, r, w, s, Q, h, W, hw, q => by cases hw
  | k + 1, [i], d, l, r, w, s, Q, h, W, hw, q => by
    have hw : r[i]? = some w := hw
    have hi := (List.getElem?_eq_some_iff.mp hw).1
    have hl := W.1
    show FRun _ [.sh (.tuple (encR r)), .sh (.tuple [.int (i : Int)])] s Q
    refine frun_fn rfl ?_
    unfold m__law_cut
    repeat walk_at "ds"
    rw [int1, cut_lo, cut_hi]
    refine bx_add_tup (line_of (by rw [List.length_take, List.length_drop, encR_len]; omega)) ?_
    repeat walk_at "ds"
    rw [enc_erase, trim_len rfl]
    exact q s (.refl s)
  | k + 1, i :: j :: p, d, l, r, w, s, Q, h, W, hw, q => by
    obtain ⟨u, r', h1, h2, h3⟩ := wf_cons hw
    have hi := (List.getElem?_eq_some_iff.mp h1).1
    have hl := W.1
    have Wu := W.2 u (List.mem_of_getElem? h1)
    obtain ⟨d', l', rfl, W'⟩ := wf_rows Wu (List.mem_of_getElem? h2)
    show FRun _ [.sh (.tuple (encR r)), .sh (.tuple (.int (i : Int) :: .int (j : Int) :: intsP p))] s Q
    refine frun_fn rfl ?_
    unfold m__law_cut
    repeat walk_at "ds"
    refine ⟨_, at0, ?_⟩
    repeat walk_at "ds"
    refine two_dec (fun h => by simp only [List.length_cons] at h; omega) (fun _ => ?_)
    repeat walk_at "ds"
    refine ⟨_, ix_at (encR_get h1), ?_⟩
    rcases wd_rows h2 with ⟨rs, rfl, hrs⟩ | ⟨rfl, rfl⟩
    · have ew : encN (.choose rs) = .tuple [.str "choose", .tuple (encRs rs)] := by unfold encN; rfl
      have hc : rs.length ≤ 4 := by cases Wu with | choose a b c f => exact b
      have hj := (List.getElem?_eq_some_iff.mp hrs).1
      rw [ew]
      repeat walk_at "ds"
      refine ⟨by unfold enumD; simp [encRs_map]; exact line_of (by omega), ?_⟩
      refine run_compL _ (fun m ys e s' => Fz s s' ∧ ys = encRs ((rs.set j (cutR r' p)).take m) ∧ e = [.sh (.tuple (encR r)), .sh (.tuple (.int (i : Int) :: .int (j : Int) :: intsP p)), .sh (.int (i : Int)), .sh (.tuple [.str "choose", .tuple (encRs rs)]), .no, .no, .no]) ⟨.refl s, by rw [List.take_zero]; unfold encRs; rfl, rfl⟩ (fun m x ys e s' hx hJ => ?_) fun ys e s' hJ => ?_
      · obtain ⟨F, rfl, rfl⟩ := hJ
        obtain ⟨y, hy, rfl⟩ := enum_at hx
        rw [encRs_map, List.getElem?_map] at hy
        obtain ⟨r2, hr2, rfl⟩ := Option.map_eq_some_iff.mp hy
        refine ⟨_, rfl, ?_⟩
        repeat walk_at "ds"
        refine ⟨_, ix1c, ?_⟩
        repeat walk_at "ds"
        refine two_dec (fun hmj => ?_) (fun hmj => ?_)
        · obtain rfl : m = j := by omega
          rw [hr2] at hrs
          cases hrs
          repeat walk_at "ds"
          rw [ints_drop]
          refine law_cut_ k (by simp at h; omega) W' h3 fun s2 F2 => ?_
          repeat walk_at "ds"
          refine ⟨F.trans F2, ?_, rfl⟩
          rw [List.take_succ, List.getElem?_set_self hj, encRs_map, encRs_map, List.map_append]
          rfl
        · have hmj2 : m ≠ j := by omega
          repeat walk_at "ds"
          refine ⟨F, ?_, rfl⟩
          rw [List.take_succ, List.getElem?_set_ne (Ne.symm hmj2), hr2, encRs_map, encRs_map, List.map_append]
          rfl
      · obtain ⟨F, rfl, rfl⟩ := hJ
        have el : (enumD (encRs rs)).length = (rs.set j (cutR r' p)).length := by unfold enumD; simp [encRs_map]
        rw [el, List.take_length]
        refine ⟨_, shL_map _, ?_⟩
        repeat walk_at "ds"
        have e := enc_set (u := .choose (rs.set j (cutR r' p))) hi
        rw [← cut_choose h1 hrs, show encN (.choose (rs.set j (cutR r' p))) = .tuple [.str "choose", .tuple (encRs (rs.set j (cutR r' p)))] by unfold encN; rfl] at e
        rw [cut_lo]
        refine bx_add_tup (line_of (by rw [List.length_take, encR_len]; show _ + 1 ≤ _; omega)) ?_
        repeat walk_at "ds"
        rw [int1, cut_hi]
        refine bx_add_tup (line_of (by rw [List.length_append, List.length_take, List.length_drop, encR_len]; show _ + 1 + _ ≤ _; omega)) ?_
        repeat walk_at "ds"
        rw [e]
        exact q _ F.trim
    · have ew : encN (.loop r') = .tuple [.str "loop", .tuple (encR r')] := by unfold encN; rfl
      rw [ew]
      repeat walk_at "ds"
      rw [cut_lo, ints_drop]
      refine law_cut_ k (by simp at h; omega) W' h3 fun s2 F2 => ?_
      repeat walk_at "ds"
      have e := enc_set (u := .loop (cutR r' p)) hi
      rw [← cut_loop (j := 0) h1, show encN (.loop (cutR r' p)) = .tuple [.str "loop", .tuple (encR (cutR r' p))] by unfold encN; rfl] at e
      refine bx_add_tup (line_of (by rw [List.length_take, encR_len]; show _ + 1 ≤ _; omega)) ?_
      repeat walk_at "ds"
      rw [int1, cut_hi]
      refine bx_add_tup (line_of (by rw [List.length_append, List.length_take, List.length_drop, encR_len]; show _ + 1 + _ ≤ _; omega)) ?_
      repeat walk_at "ds"
      rw [e]
      exact q _ F2.trim
end
end Ds.K60
namespace Ds.K60
open PySem PySem.Spec PyProof.Rows L2 Dn TL
def cutD1 (nm : Str) (p : List Nat) (d : Df) : Df := if d.nm = nm then ⟨d.nm, d.ps, d.rs, cutR d.row p⟩ else d
def cutP (P : Pg) (nm : Str) (p : List Nat) : Pg := if nm = "" then ⟨P.ds, cutR P.main p⟩ else ⟨P.ds.map (cutD1 nm p), P.main⟩
theorem pl_ints {nm : Str} {q : List Nat} : plR nm q = .tuple (.str nm :: intsP q.reverse) := rfl
theorem pl_drop {nm : Str} {p : List Nat} : Dn.cutD (.str nm :: intsP p) (some 1) none = intsP p := by
  rw [show (1 : Int) = ((1 : Nat) : Int) from rfl, cut_hi]
  rfl
def CutI (P : Pg) (nm : Str) (p : List Nat) (s : St) (i : Nat) (e : Ev) (s' : St) : Prop := Fz s s' ∧ s'[s.length]? = some (.lst ((((P.ds.take i).map (cutD1 nm p)).map encD).map Cl.sh)) ∧ ∃ z3, e = [.sh (.tuple [.tuple (P.ds.map encD), .tuple (encR P.main)]), .sh (.tuple (.str nm :: intsP p)), .lo s.length, z3, .sh (.tuple (P.ds.map encD)), .sh (.tuple (encR P.main))]
theorem CutI.next {P : Pg} {nm : Str} {p : List Nat} {s s2 : St} {i : Nat} {d : Df} {z3 : Cl} (hd : P.ds[i]? = some d) (F2 : Fz s s2) (a2 : s2[s.length]? = some (.lst ((((P.ds.take i).map (cutD1 nm p)).map encD).map Cl.sh))) : CutI P nm p s (i + 1) [.sh (.tuple [.tuple (P.ds.map encD), .tuple (encR P.main)]), .sh (.tuple (.str nm :: intsP p)), .lo s.length, z3, .sh (.tuple (P.ds.map encD)), .sh (.tuple (encR P.main))] (s2.set s.length (.lst ((((P.ds.take i).map (cutD1 nm p)).map encD).map Cl.sh ++ [.sh (encD (cutD1 nm p d))]))) := by
  refine ⟨F2.put (Nat.le_refl _), ?_, z3, rfl⟩
  rw [set_same (lt_of_at a2), List.take_succ, hd]
  simp
section
variable {Ws Bs : List Str} {P : Pg} {nm : Str} {R : Rw}
theorem row_is (PO : PgOk Ws Bs P) (HR : rowOf P nm = some R) {d : Df} (hd : d ∈ P.ds) (e : d.nm = nm) : d.row = R := by
  have := row_df PO.np hd
  rw [e, HR] at this
  exact (Option.some.inj this).symm
end
end Ds.K60
namespace Ds.K60
open PySem PySem.Spec PyProof.Rows L2 Dn TL
/-- a comprehension that changes nothing -/
theorem run_compP {α : Type} {Y : Exn → Ev → St → Prop} {e : Ev} {s : St} {vs : List Nat} {g : MG Cl} {me : M D} {Q : List D → Ev → St → Prop} (xs : List α) (ρ f : α → D) (hs : ∀ x ∈ xs, ∃ e1, g (.sh (ρ x)) e = some e1 ∧ RunX Y me e1 s fun y e3 s3 => y = f x ∧ wipeE e3 vs = e ∧ s3 = s) (k : Q (xs.map f) e s) : RunX Y (compL vs g mYes me (xs.map ρ)) e s Q := by
  refine run_compL (xs.map ρ) (fun i ys e' s' => e' = e ∧ s' = s ∧ ys = (xs.take i).map f) ⟨rfl, rfl, rfl⟩ (fun i d ys e' s' hd hJ => ?_) fun ys e' s' hJ => ?_
  · obtain ⟨rfl, rfl, rfl⟩ := hJ
    rw [List.getElem?_map] at hd
    obtain ⟨x, hx, rfl⟩ := Option.map_eq_some_iff.mp hd
    obtain ⟨e1, h1, h2⟩ := hs x (List.mem_of_getElem? hx)
    refine ⟨e1, h1, ?_⟩
    repeat walk_at "ds"
    refine h2.mono fun y e3 s3 hh => ?_
    obtain ⟨rfl, h3, rfl⟩ := hh
    refine ⟨h3, rfl, ?_⟩
    rw [List.take_succ, hx, List.map_append]
    rfl
  · obtain ⟨rfl, rfl, rfl⟩ := hJ
    rw [List.length_map, List.take_length]
    exact k
/-- a comprehension that only adds to the store -/
theorem run_compF {α : Type} {Y : Exn → Ev → St → Prop} {e : Ev} {s : St} {vs : List Nat} {g : MG Cl} {me : M D} {Q : List D → Ev → St → Prop} (xs : List α) (ρ f : α → D) (hs : ∀ x ∈ xs, ∀ s', Fz s s' → ∃ e1, g (.sh (ρ x)) e = some e1 ∧ RunX Y me e1 s' fun y e3 s3 => y = f x ∧ wipeE e3 vs = e ∧ Fz s' s3) (k : ∀ s', Fz s s' → Q (xs.map f) e s') : RunX Y (compL vs g mYes me (xs.map ρ)) e s Q := by
  refine run_compL (xs.map ρ) (fun i ys e' s' => e' = e ∧ Fz s s' ∧ ys = (xs.take i).map f) ⟨rfl, .refl _, rfl⟩ (fun i d ys e' s' hd hJ => ?_) fun ys e' s' hJ => ?_
  · obtain ⟨rfl, F, rfl⟩ := hJ
    rw [List.getElem?_map] at hd
    obtain ⟨x, hx, rfl⟩ := Option.map_eq_some_iff.mp hd
    obtain ⟨e1, h1, h2⟩ := hs x (List.mem_of_getElem? hx) s' F
    refine ⟨e1, h1, ?_⟩
    repeat walk_at "ds"
    refine h2.mono fun y e3 s3 hh => ?_
    obtain ⟨rfl, h3, F2⟩ := hh
    refine ⟨h3, F.trans F2, ?_⟩
    rw [List.take_succ, hx, List.map_append]
    rfl
  · obtain ⟨rfl, F, rfl⟩ := hJ
    rw [List.length_map, List.take_length]
    exact k _ F
section
variable {Ws Bs : List Str} {P : Pg} {nm : Str} {R : Rw} {w : Nd} {p : List Nat} {s : St} {Q : Cl → St → Prop}
theorem without_ (PO : PgOk Ws Bs P) (HR : rowOf P nm = some R) (hw : wordF R p = some w) (hp : p.length < 28) (q : ∀ s', Fz s s' → Q (.sh (wholeP (cutP P nm p))) s') : FRun f_without [.sh (wholeP P), .sh (.tuple (.str nm :: intsP p))] s Q := by
  have hdl := PO.dl
  refine frun_fn rfl ?_
  unfold m_without wholeP
  repeat walk_at "ds"
  refine ⟨_, at0, ?_⟩
  repeat walk_at "ds"
  refine two_dec (fun h => ?_) (fun h => ?_)
  · subst h
    have hR : P.main = R := Option.some.inj (row_main.symm.trans HR)
    subst hR
    repeat walk_at "ds"
    rw [pl_drop]
    refine row_without_ 14 (by omega) PO.main hw fun s2 F2 => ?_
    repeat walk_at "ds"
    have e : wholeP (cutP P "" p) = .tuple [.tuple (P.ds.map encD), .tuple (encR (cutR P.main p))] := by unfold cutP; rw [if_pos rfl]; rfl
    have := q (trim s.length (.sh (wholeP (cutP P "" p))) s2) F2.trim
    rw [e] at this
    exact this
  · repeat walk_at "ds"
    refine run_forL _ (CutI P nm p s) ⟨Fz.app, app_new, _, rfl⟩ (fun i x e s' hx hI => ?_) fun e s' hI => ?_
    · obtain ⟨F, at1, z3, rfl⟩ := hI
      rw [List.getElem?_map] at hx
      obtain ⟨d, hd, rfl⟩ := Option.map_eq_some_iff.mp hx
      have hdm := List.mem_of_getElem? hd
      have hi := (List.getElem?_eq_some_iff.mp hd).1
      have lt : ((((P.ds.take i).map (cutD1 nm p)).map encD).map Cl.sh).length < sizeLine := by
        rw [List.length_map, List.length_map, List.length_map, List.length_take]
        exact Nat.lt_of_le_of_lt (show _ ≤ 100 by omega) (by decide)
      have fin := fun s2 z3 F2 a2 => CutI.next (P := P) (nm := nm) (p := p) (s := s) (s2 := s2) (z3 := z3) hd F2 a2
      refine ⟨_, rfl, ?_⟩
      rw [show encD d = .tuple [.str d.nm, .tuple (d.ps.map PyData.str), .tuple (d.rs.map PyData.str), .tuple (encR d.row)] from rfl]
      repeat walk_at "ds"
      refine ⟨_, at0, ?_⟩
      repeat walk_at "ds"
      refine two_dec (fun hn => ?_) (fun hn => ?_)
      · have ec : encD (cutD1 nm p d) = .tuple [.str d.nm, .tuple (d.ps.map PyData.str), .tuple (d.rs.map PyData.str), .tuple (encR (cutR d.row p))] := by unfold cutD1; rw [if_pos hn]; rfl
        rw [ec] at fin
        repeat walk_at "ds"
        rw [cut3, pl_drop]
        refine row_without_ 14 (by omega) (PO.ds d hdm).2.2.2 (by rw [row_is PO HR hdm hn]; exact hw) fun s2 F2 => ?_
        have a2 := (F2.2 _ (lt_of_at at1)).trans at1
        repeat walk_at "ds"
        refine ⟨_, a2, ?_⟩
        repeat walk_at "ds"
        refine ⟨_, a2, lt, ?_⟩
        exact turn_nx (fin _ _ (F.trans F2) a2)
      · have ec : encD (cutD1 nm p d) = .tuple [.str d.nm, .tuple (d.ps.map PyData.str), .tuple (d.rs.map PyData.str), .tuple (encR d.row)] := by unfold cutD1; rw [if_neg hn]; rfl
        rw [ec] at fin
        repeat walk_at "ds"
        refine ⟨_, at1, ?_⟩
        repeat walk_at "ds"
        refine ⟨_, at1, lt, ?_⟩
        exact turn_nx (fin _ _ F at1)
    · obtain ⟨F, at1, z3, rfl⟩ := hI
      rw [List.length_map, List.take_length] at at1
      repeat walk_at "ds"
      refine ⟨_, _, snap_list at1, rfl, ?_⟩
      repeat walk_at "ds"
      have e : wholeP (cutP P nm p) = .tuple [.tuple ((P.ds.map (cutD1 nm p)).map encD), .tuple (encR P.main)] := by unfold cutP; rw [if_neg h]; rfl
      have := q (trim s.length (.sh (wholeP (cutP P nm p))) s') F.trim
      rw [e] at this
      exact this
theorem law_without_ (PO : PgOk Ws Bs P) (HR : rowOf P nm = some R) (hw : wordF R p = some w) (hp : p.length < 28) (q : ∀ s', Fz s s' → Q (.sh (wholeP (cutP P nm p))) s') : FRun f__law_without [.sh (wholeP P), .sh (.tuple (.str nm :: intsP p))] s Q := by
  have hdl := PO.dl
  refine frun_fn rfl ?_
  unfold m__law_without wholeP
  repeat walk_at "ds"
  refine ⟨_, at0, ?_⟩
  repeat walk_at "ds"
  refine two_dec (fun h => ?_) (fun h => ?_)
  · subst h
    have hR : P.main = R := Option.some.inj (row_main.symm.trans HR)
    subst hR
    repeat walk_at "ds"
    rw [pl_drop]
    refine law_cut_ 14 (by omega) PO.main hw fun s2 F2 => ?_
    repeat walk_at "ds"
    have e : wholeP (cutP P "" p) = .tuple [.tuple (P.ds.map encD), .tuple (encR (cutR P.main p))] := by unfold cutP; rw [if_pos rfl]; rfl
    have := q (trim s.length (.sh (wholeP (cutP P "" p))) s2) F2.trim
    rw [e] at this
    exact this
  · repeat walk_at "ds"
    refine ⟨by rw [List.length_map]; exact line_of (by omega), ?_⟩
    refine run_compF P.ds encD (fun d => encD (cutD1 nm p d)) (fun d hdm s' F => ⟨_, rfl, ?_⟩) fun s' F => ?_
    · rw [show encD d = .tuple [.str d.nm, .tuple (d.ps.map PyData.str), .tuple (d.rs.map PyData.str), .tuple (encR d.row)] from rfl]
      repeat walk_at "ds"
      refine ⟨_, at0, ?_⟩
      repeat walk_at "ds"
      refine two_dec (fun hn => ?_) (fun hn => ?_)
      · have ec : encD (cutD1 nm p d) = .tuple [.str d.nm, .tuple (d.ps.map PyData.str), .tuple (d.rs.map PyData.str), .tuple (encR (cutR d.row p))] := by unfold cutD1; rw [if_pos hn]; rfl
        rw [ec]
        repeat walk_at "ds"
        rw [cut3, pl_drop]
        refine law_cut_ 14 (by omega) (PO.ds d hdm).2.2.2 (by rw [row_is PO HR hdm hn]; exact hw) fun s2 F2 => ?_
        repeat walk_at "ds"
        exact ⟨rfl, rfl, F2⟩
      · have ec : encD (cutD1 nm p d) = .tuple [.str d.nm, .tuple (d.ps.map PyData.str), .tuple (d.rs.map PyData.str), .tuple (encR d.row)] := by unfold cutD1; rw [if_neg hn]; rfl
        rw [ec]
        repeat walk_at "ds"
        exact ⟨rfl, rfl, .refl _⟩
    · refine ⟨_, shL_map _, ?_⟩
      repeat walk_at "ds"
      have e : wholeP (cutP P nm p) = .tuple [.tuple (P.ds.map fun d => encD (cutD1 nm p d)), .tuple (encR P.main)] := by unfold cutP; rw [if_neg h]; unfold wholeP; rw [List.map_map]; rfl
      have := q (trim s.length (.sh (wholeP (cutP P nm p))) s') F.trim
      rw [e] at this
      exact this
end
end Ds.K60
namespace Ds.K60
open PySem PySem.Spec PyProof.Rows L2 Dn TL
theorem cut_one (xs : List D) (a : D) : Dn.cutD (xs ++ [a]) none (some (-1)) = xs := by
  have e : HT.sIx (xs ++ [a]).length (xs ++ [a]).length (some (-1)) = xs.length ∧ HT.sIx (xs ++ [a]).length 0 none = 0 := by
    constructor
    · unfold HT.sIx
      simp only [List.length_append, List.length_cons, List.length_nil]
      split <;> omega
    · rfl
  unfold Dn.cutD
  rw [e.1, e.2]
  simp
theorem last_tup {xs : List D} {d : D} : dIx (.tuple (xs ++ [d])) (.int (-1)) = some d := by
  show atI (xs ++ [d]) (-1) = some d
  unfold atI ixN
  rw [if_neg (by omega), if_pos (by simp; omega)]
  show (xs ++ [d])[((-1 : Int) + ((xs ++ [d]).length : Nat)).toNat]? = some d
  have e : ((-1 : Int) + ((xs ++ [d]).length : Nat)).toNat = xs.length := by simp; omega
  rw [e, List.getElem?_append_right (Nat.le_refl _), Nat.sub_self]
  rfl
theorem eqv_ints : ∀ {a b : List Nat}, PyData.eqvAll (intsP a) (intsP b) = decide (a = b)
  | [], [] => rfl
  | [], _ :: _ => rfl
  | _ :: _, [] => rfl
  | i :: a, j :: b => by
    show (PyData.eqv (.int (i : Int)) (.int (j : Int)) && PyData.eqvAll (intsP a) (intsP b)) = _
    rw [eqv_ints (a := a) (b := b), eqv_int, Bool.eq_iff_iff, Bool.and_eq_true, decide_eq_true_iff, decide_eq_true_iff, decide_eq_true_iff]
    constructor
    · rintro ⟨h, rfl⟩
      rw [Int.ofNat_inj.mp h]
    · intro h
      obtain ⟨h1, h2⟩ := List.cons.inj h
      exact ⟨by rw [h1], h2⟩
theorem eqv_pl {nm : Str} {a b : List Nat} : PyData.eqv (plR nm a) (plR nm b) = decide (a = b) := by
  rw [pl_ints, pl_ints]
  show (PyData.eqv (.str nm) (.str nm) && PyData.eqvAll (intsP a.reverse) (intsP b.reverse)) = _
  rw [eqv_ints]
  have : PyData.eqv (.str nm) (.str nm) = true := by simp [PyData.eqv]
  rw [this, Bool.true_and]
  exact decide_eq_decide.mpr List.reverse_inj
theorem in_places {nm : Str} {R : Rw} {q : List Nat} : inD (plR nm q) (pls nm (spR [] 0 R) ++ [plR nm [R.length]]) = decide ((wdR R q).isSome = true ∨ q = [R.length]) := by
  unfold inD
  rw [Bool.eq_iff_iff, List.any_eq_true, decide_eq_true_iff]
  constructor
  · rintro ⟨x, hx, h⟩
    rcases List.mem_append.mp hx with hx | hx
    · obtain ⟨⟨q', w⟩, hq, rfl⟩ := List.mem_map.mp hx
      rw [eqv_pl] at h
      obtain rfl := of_decide_eq_true h
      exact .inl (by rw [sp_wd hq]; rfl)
    · rw [List.mem_singleton] at hx
      subst hx
      rw [eqv_pl] at h
      exact .inr (of_decide_eq_true h).symm
  · rintro (h | rfl)
    · obtain ⟨w, h⟩ := Option.isSome_iff_exists.mp h
      exact ⟨plR nm q, List.mem_append_left _ (List.mem_map.mpr ⟨(q, w), wd_sp h, rfl⟩), by rw [eqv_pl]; exact decide_eq_true rfl⟩
    · exact ⟨plR nm [R.length], by simp, by rw [eqv_pl]; exact decide_eq_true rfl⟩
theorem sh_pl {nm : Str} {q : List Nat} {n : Nat} (h : Ok n nm) : Sh 1 (plR nm q) := by
  rw [pl_ints]
  refine Sh.tup fun d hd => ?_
  rcases List.mem_cons.mp hd with rfl | hd
  · exact Sh.str h
  · obtain ⟨i, _, rfl⟩ := List.mem_map.mp hd
    exact Sh.int
theorem sh_pls {nm : Str} {R : Rw} {n : Nat} (h : Ok n nm) : Sh 2 (.tuple (pls nm (spR [] 0 R) ++ [plR nm [R.length]])) := by
  refine Sh.tup fun d hd => ?_
  rcases List.mem_append.mp hd with hd | hd
  · obtain ⟨x, _, rfl⟩ := List.mem_map.mp hd
    exact sh_pl h
  · rw [List.mem_singleton] at hd
    subst hd
    exact sh_pl h
def nxtD (r : Rw) (i : Nat) : D := match r[i + 1]? with
  | some w => encN w
  | none => .none
def sameB : Nd → Bool
  | .pl (.copy x y) => decide (x = y)
  | _ => false
def twB (nx : Option Nd) (w : Nd) : Bool := decide (kwN w ∈ (["wipe", "clear"] : List Str)) && match nx with
  | some n => PyData.eqv (encN n) (encN w)
  | none => false
theorem kw_copy {w : Nd} (h : kwN w = "copy") : ∃ x y, w = .pl (.copy x y) := by
  cases w with
  | pl v =>
    cases v with
    | copy x y => exact ⟨x, y, rfl⟩
    | take x w => exact absurd (show ("take" : Str) = "copy" from h) (by decide)
    | ask x => exact absurd (show ("ask" : Str) = "copy" from h) (by decide)
    | number x n => exact absurd (show ("number" : Str) = "copy" from h) (by decide)
    | mix x y z => exact absurd (show ("mix" : Str) = "copy" from h) (by decide)
    | opn x y => exact absurd (show ("open" : Str) = "copy" from h) (by decide)
    | tell x => exact absurd (show ("tell" : Str) = "copy" from h) (by decide)
    | wipe x => exact absurd (show ("wipe" : Str) = "copy" from h) (by decide)
    | clear x => exact absurd (show ("clear" : Str) = "copy" from h) (by decide)
    | drop x => exact absurd (show ("drop" : Str) = "copy" from h) (by decide)
  | choose => exact absurd (show ("choose" : Str) = "copy" from h) (by decide)
  | loop => exact absurd (show ("loop" : Str) = "copy" from h) (by decide)
  | out => exact absurd (show ("out" : Str) = "copy" from h) (by decide)
  | risk => exact absurd (show ("risk" : Str) = "copy" from h) (by decide)
  | fault => exact absurd (show ("fault" : Str) = "copy" from h) (by decide)
  | back => exact absurd (show ("back" : Str) = "copy" from h) (by decide)
  | call => exact absurd (show ("call" : Str) = "copy" from h) (by decide)
theorem same_no {w : Nd} (h : ¬ kwN w = "copy") : sameB w = false := by
  cases w with
  | pl v =>
    cases v with
    | copy x y => exact absurd rfl h
    | _ => rfl
  | _ => rfl
section
variable {Ws Bs : List Str} {P : Pg} {nm : Str} {R : Rw} {w : Nd} {q : List Nat}
theorem sh_word (PO : PgOk Ws Bs P) (HR : rowOf P nm = some R) (hw : wdR R q = some w) : Sh 40 (encN w) := by
  obtain ⟨d', W, hl⟩ := wf_word (PO.row HR) hw
  exact (sh_nd PO.bs (fun e he => (PO.ds e he).1) W).mono (by omega)
theorem place_len (PO : PgOk Ws Bs P) (HR : rowOf P nm = some R) (hw : wdR R q = some w) : q.length ≤ 7 := by
  obtain ⟨d', W, hl⟩ := wf_word (PO.row HR) hw
  omega
theorem tw_yes {r : Rw} {i : Nat} (h : kwN w ∈ (["wipe", "clear"] : List Str)) : twB r[i + 1]? w = PyData.eqv (nxtD r i) (encN w) := by
  unfold twB nxtD
  rw [decide_eq_true h, Bool.true_and]
  cases r[i + 1]? with
  | some n => rfl
  | none => rw [enc_tl]; rfl
theorem tw_no {nx : Option Nd} (h : kwN w ∉ (["wipe", "clear"] : List Str)) : twB nx w = false := by
  unfold twB
  rw [decide_eq_false h, Bool.false_and]
end
end Ds.K60
namespace Ds.K60
open PySem PySem.Spec PyProof.Rows L2 Dn TL
section
variable {Ws Bs : List Str} {P : Pg} {nm : Str} {R : Rw} {w : Nd} {s : St} {Q : Cl → St → Prop} {i : Nat} {hd : List Nat} {r : Rw}
theorem next_word_ (PO : PgOk Ws Bs P) (HR : rowOf P nm = some R) (h : rowR R (i :: hd) = some (r, i)) (hi : i < r.length) (hl : hd.length ≤ 30) (q : ∀ s', Fz s s' → Q (.sh (nxtD r i)) s') : FRun f_next_word [.sh (wholeP P), .sh (plR nm (i :: hd))] s Q := by
  have ok := PO.nm HR
  have ew : wdR R ((i + 1) :: hd) = r[i + 1]? := by unfold wdR; rw [rowR_step h (k := i + 1)]; rfl
  refine frun_fn rfl ?_
  unfold m_next_word
  rw [plR_L, plL_cons]
  repeat walk_at "ds"
  rw [cut_one]
  refine ⟨_, last_tup, ?_⟩
  repeat walk_at "ds"
  refine ⟨plR nm ((i + 1) :: hd), pl_add1 (by omega), ?_⟩
  repeat walk_at "ds"
  refine ⟨.str nm, at0, ?_⟩
  repeat walk_at "ds"
  refine places_of_ HR (PO.row HR) fun s1 F1 => ?_
  repeat walk_at "ds"
  refine bx_inD_tup (sh_pl ok).ok (sh_pls ok).ok ?_
  rw [in_places]
  repeat walk_at "ds"
  have hV : (wdR R ((i + 1) :: hd)).isSome = true ∨ (i + 1) :: hd = [R.length] → Vp R ((i + 1) :: hd) := fun hz => by
    rcases hz with hz | hz
    · obtain ⟨w, hw⟩ := Option.isSome_iff_exists.mp hz
      exact Vp.of hw
    · rw [hz]
      exact ⟨R, R.length, rfl, .inr ⟨rfl, rfl⟩⟩
  have en : wdD R ((i + 1) :: hd) = nxtD r i := by
    unfold wdD nxtD
    first
      | (rw [ew]; done)
      | (rw [ew]; cases r[i + 1]? <;> rfl)
  refine two_dec (fun hz => ?_) (fun hz => ?_)
  · repeat walk_at "ds"
    refine word_at_ HR (hV hz) (by simp; omega) fun s2 F2 => ?_
    rw [en]
    repeat walk_at "ds"
    exact q _ (F1.trans F2).trim
  · have e : nxtD r i = .none := by
      unfold nxtD
      rw [← ew]
      cases e : wdR R ((i + 1) :: hd) with
      | none => rfl
      | some w => exact absurd (.inl (by rw [e]; rfl)) hz
    rw [e] at q
    repeat walk_at "ds"
    exact q _ F1.trim
theorem lets_same (PO : PgOk Ws Bs P) (HR : rowOf P nm = some R) (hw : wdR R (i :: hd) = some w) (hl : hd.length ≤ 30) (q : ∀ s', Fz s s' → Q (.sh (.bool (sameB w))) s') : FRun f_lets [.sh (wholeP P), .sh (plR nm (i :: hd)), .sh (.str "same"), .sh .none] s Q := by
  have en : wdD R (i :: hd) = .tuple (.str (kwN w) :: tlW w) := by unfold wdD; rw [hw]; exact enc_tl w
  refine frun_fn rfl ?_
  unfold m_lets
  repeat walk_at "ds"
  refine word_at_ HR (Vp.of hw) (by simp; omega) fun s1 F1 => ?_
  rw [en]
  repeat walk_at "ds"
  refine ⟨_, at0, ?_⟩
  repeat walk_at "ds"
  refine two_dec (fun hk => ?_) (fun hk => ?_)
  · obtain ⟨x, y, rfl⟩ := kw_copy hk
    repeat walk_at "ds"
    exact q _ F1.trim
  · rw [same_no hk] at q
    repeat walk_at "ds"
    exact q _ F1.trim
theorem lets_twice {r : Rw} (PO : PgOk Ws Bs P) (HR : rowOf P nm = some R) (h : rowR R (i :: hd) = some (r, i)) (hi : r[i]? = some w) (hl : hd.length ≤ 30) (q : ∀ s', Fz s s' → Q (.sh (.bool (twB r[i + 1]? w))) s') : FRun f_lets [.sh (wholeP P), .sh (plR nm (i :: hd)), .sh (.str "twice"), .sh .none] s Q := by
  have hw : wdR R (i :: hd) = some w := by unfold wdR; rw [h]; exact hi
  have en : wdD R (i :: hd) = .tuple (.str (kwN w) :: tlW w) := by unfold wdD; rw [hw]; exact enc_tl w
  refine frun_fn rfl ?_
  unfold m_lets
  repeat walk_at "ds"
  refine word_at_ HR (Vp.of hw) (by simp; omega) fun s1 F1 => ?_
  rw [en]
  repeat walk_at "ds"
  refine ⟨_, at0, ?_⟩
  repeat walk_at "ds"
  refine two_in ["wipe", "clear"] (fun hk => ?_) (fun hk => ?_)
  · repeat walk_at "ds"
    refine next_word_ PO HR h (List.getElem?_eq_some_iff.mp hi).1 hl fun s2 F2 => ?_
    have s1 := sh_word PO HR hw
    rw [tw_yes hk] at q
    rw [enc_tl] at s1 q
    have s2 : Sh 40 (nxtD r i) := by
      unfold nxtD
      cases e : r[i + 1]? with
      | some n => exact sh_word PO HR (q := (i + 1) :: hd) (by unfold wdR; rw [rowR_step h (k := i + 1)]; exact e)
      | none => exact ⟨rfl, Nat.zero_le _⟩
    repeat walk_at "ds"
    refine bx_eq (.inr rfl) s2.ok s1.ok ?_
    repeat walk_at "ds"
    exact q _ (F1.trans F2).trim
  · rw [tw_no hk] at q
    repeat walk_at "ds"
    exact q _ F1.trim
end
end Ds.K60
namespace Ds.K60
open PySem PySem.Spec PyProof.Rows L2 Dn TL
theorem in_names {P : Pg} {nm : Str} {R : Rw} (HR : rowOf P nm = some R) : nm ∈ ("" : Str) :: P.ds.map Df.nm := by
  unfold rowOf at HR
  by_cases z : nm = ""
  · rw [z]; exact List.mem_cons_self
  · rw [if_neg z] at HR
    obtain ⟨d, hd, _⟩ := Option.map_eq_some_iff.mp HR
    have k := of_decide_eq_true (List.find?_some (p := fun x : Df => decide (x.nm = nm)) hd)
    exact List.mem_cons_of_mem _ (List.mem_map.mpr ⟨d, List.mem_of_find?_eq_some hd, k⟩)
theorem bx_nin_lstS {k : Str} (ks : List Str) {Q : D → Prop} (h : Q (.bool (!decide (k ∈ ks)))) : ∃ c, dNotIn (.str k) (.list (ks.map PyData.str)) = some c ∧ Q c := bx_nin_lst rfl flat_strs (by rw [in_strs]; exact h)
def ltrD (r : Rw) (i : Nat) : D := match r[i + 1]? with
  | some w => encN w
  | none => .tuple [.str "none"]
theorem ltr_ix {r : Rw} {i : Nat} (h : i < r.length) : dIx (.tuple (encR r ++ [.tuple [.str "none"]])) (.int ((i : Int) + 1)) = some (ltrD r i) := by
  rw [int1]
  refine ix_at ?_
  unfold ltrD
  by_cases e : i + 1 < r.length
  · rw [List.getElem?_append_left (by rw [encR_len]; exact e), encR_get (List.getElem?_eq_getElem e), List.getElem?_eq_getElem e]
  · have e2 : r[i + 1]? = none := List.getElem?_eq_none (by omega)
    rw [e2, List.getElem?_append_right (by rw [encR_len]; omega), encR_len, show i + 1 - r.length = 0 by omega]
    rfl
theorem tw_ltr {w : Nd} {r : Rw} {i : Nat} (h : kwN w ∈ (["wipe", "clear"] : List Str)) : twB r[i + 1]? w = PyData.eqv (ltrD r i) (encN w) := by
  unfold twB ltrD
  rw [decide_eq_true h, Bool.true_and]
  cases r[i + 1]? with
  | some n => rfl
  | none =>
    rw [enc_tl]
    show false = (PyData.eqv (.str "none") (.str (kwN w)) && _)
    have : PyData.eqv (.str "none") (.str (kwN w)) = false := by
      simp only [List.mem_cons, List.not_mem_nil, or_false] at h
      rcases h with h | h <;> rw [h] <;> rfl
    rw [this]
    rfl
def toldD (b : Bool) (P : Pg) (nm : Str) (p : List Nat) : D := if b = true then .tuple [.str "told", wholeP (cutP P nm p)] else .tuple [.str "refused", .bool true]
end Ds.K60
namespace Ds.K60
open PySem PySem.Spec PyProof.Rows L2 Dn TL
section
variable {Ws Bs : List Str} {P : Pg} {nm : Str} {R : Rw} {w : Nd} {s : St} {Q : Cl → St → Prop} {i : Nat} {hd : List Nat} {r : Rw}
theorem is_place_ (PO : PgOk Ws Bs P) (HR : rowOf P nm = some R) (hw : wdR R (i :: hd) = some w) (q : ∀ s', Fz s s' → Q (.sh (.bool true)) s') : FRun f_is_place [.sh (wholeP P), .sh (plR nm (i :: hd))] s Q := by
  have ok := PO.nm HR
  have hdl := PO.dl
  have hl := place_len PO HR hw
  have hv : (wdR R (i :: hd)).isSome = true ∨ i :: hd = [R.length] := .inl (by rw [hw]; rfl)
  have ip := in_places (nm := nm) (R := R) (q := i :: hd)
  rw [decide_eq_true hv] at ip
  have sp := sh_pl (q := i :: hd) ok
  have hll : (intsP (i :: hd).reverse).length = (i :: hd).length := by unfold intsP; rw [List.length_map, List.length_reverse]
  rw [pl_ints] at ip sp ⊢
  refine frun_fn rfl ?_
  unfold m_is_place
  repeat walk_at "ds"
  refine two_dec (fun h => by simp only [List.length_cons] at h hll; omega) (fun _ => ?_)
  repeat walk_at "ds"
  refine ⟨_, at0, ?_⟩
  repeat walk_at "ds"
  rw [pl_drop]
  refine run_forL _ (fun k e s' => s' = s ∧ ∃ z2, e = [.sh (wholeP P), .sh (.tuple (.str nm :: intsP (i :: hd).reverse)), z2, .no]) ⟨rfl, _, rfl⟩ (fun k x e s' hx hI => ?_) fun e s' hI => ?_
  · obtain ⟨rfl, z2, rfl⟩ := hI
    obtain ⟨n, _, rfl⟩ := List.mem_map.mp (List.mem_of_getElem? hx)
    refine ⟨_, rfl, ?_⟩
    repeat walk_at "ds"
    exact ⟨rfl, _, rfl⟩
  · obtain ⟨rfl, z2, rfl⟩ := hI
    repeat walk_at "ds"
    refine ⟨_, at0, ?_⟩
    unfold wholeP
    repeat walk_at "ds"
    refine ⟨by rw [List.length_map]; exact line_of (by omega), ?_⟩
    refine run_compP P.ds encD (fun d => .str d.nm) (fun d hd => ⟨_, rfl, ?_⟩) ?_
    · rw [show encD d = .tuple [.str d.nm, .tuple (d.ps.map PyData.str), .tuple (d.rs.map PyData.str), .tuple (encR d.row)] from rfl]
      repeat walk_at "ds"
      exact ⟨rfl, rfl, rfl⟩
    · refine ⟨_, shL_map _, ?_⟩
      refine bx_add_lst (line_of (by rw [List.length_map]; show 1 + _ ≤ _; omega)) ?_
      rw [show List.map (fun d => PyData.str d.nm) P.ds = (P.ds.map Df.nm).map PyData.str by rw [List.map_map]; rfl]
      refine bx_nin_lstS (("" : Str) :: P.ds.map Df.nm) ?_
      rw [decide_eq_true (in_names HR)]
      repeat walk_at "ds"
      refine ⟨_, at0, ?_⟩
      repeat walk_at "ds"
      refine places_of_ HR (PO.row HR) fun s1 F1 => ?_
      repeat walk_at "ds"
      refine bx_inD_tup sp.ok (sh_pls ok).ok ?_
      rw [ip]
      repeat walk_at "ds"
      exact q _ F1.trim
/-- a word taken away, or not -/
theorem turned_ {YF : Exn → St → Prop} {rule : Str} {b : Bool} (PO : PgOk Ws Bs P) (HR : rowOf P nm = some R) (h : rowR R (i :: hd) = some (r, i)) (hi : r[i]? = some w) (hb : (rule = "same" ∧ b = sameB w) ∨ (rule = "twice" ∧ b = twB r[i + 1]? w)) (q : b = true → ∀ s', Fz s s' → Q (.sh (wholeP (cutP P nm (i :: hd).reverse))) s') (y : b = false → ∀ s', Fz s s' → YF ⟨"NoTurn", none⟩ s') : FRunX YF f_turned [.sh (wholeP P), .sh (.tuple [plR nm (i :: hd), .str rule])] s Q := by
  have hw : wdR R (i :: hd) = some w := by unfold wdR; rw [h]; exact hi
  have hl := place_len PO HR hw
  have hl2 : hd.length ≤ 30 := by rw [List.length_cons] at hl; omega
  have hF : wordF R (i :: hd).reverse = some w := by rw [wd_F]; exact hw
  have hp : (i :: hd).reverse.length < 28 := by rw [List.length_reverse]; omega
  refine frun_fn rfl ?_
  unfold m_turned
  rcases hb with ⟨rfl, hb⟩ | ⟨rfl, hb⟩
  · repeat walk_at "ds"
    refine is_place_ PO HR hw fun s1 F1 => ?_
    repeat walk_at "ds"
    refine lets_same PO HR hw hl2 fun s2 F2 => ?_
    rw [← hb]
    cases b with
    | true =>
      repeat walk_at "ds"
      rw [pl_ints]
      refine without_ PO HR hF hp fun s3 F3 => ?_
      repeat walk_at "ds"
      exact q rfl _ ((F1.trans F2).trans F3).trim
    | false =>
      repeat walk_at "ds"
      exact y rfl _ (F1.trans F2)
  · repeat walk_at "ds"
    refine is_place_ PO HR hw fun s1 F1 => ?_
    repeat walk_at "ds"
    refine lets_twice PO HR h hi hl2 fun s2 F2 => ?_
    rw [← hb]
    cases b with
    | true =>
      repeat walk_at "ds"
      rw [pl_ints]
      refine without_ PO HR hF hp fun s3 F3 => ?_
      repeat walk_at "ds"
      exact q rfl _ ((F1.trans F2).trans F3).trim
    | false =>
      repeat walk_at "ds"
      exact y rfl _ (F1.trans F2)
theorem told_ {rule : Str} {b : Bool} (PO : PgOk Ws Bs P) (HR : rowOf P nm = some R) (h : rowR R (i :: hd) = some (r, i)) (hi : r[i]? = some w) (hb : (rule = "same" ∧ b = sameB w) ∨ (rule = "twice" ∧ b = twB r[i + 1]? w)) (q : ∀ s', Fz s s' → Q (.sh (toldD b P nm (i :: hd).reverse)) s') : FRun f__law_told [.sh (wholeP P), .sh (.tuple [plR nm (i :: hd), .str rule])] s Q := by
  refine frun_fn rfl ?_
  unfold m__law_told
  repeat walk_at "ds"
  refine run_tryAs ?_
  repeat walk_at "ds"
  refine turned_ (b := b) PO HR h hi hb (fun hb s1 F1 => ?_) (fun hb s1 F1 => ?_)
  · subst hb
    repeat walk_at "ds"
    exact q _ F1.trim
  · subst hb
    refine ⟨true, rfl, fun _ => ⟨Nat.le_of_ble_eq_true rfl, ?_⟩, fun z => nomatch z⟩
    refine run_msHit ?_
    repeat walk_at "ds"
    exact q _ F1.trim
theorem lets_plain_ {rule : Str} {b : Bool} (PO : PgOk Ws Bs P) (HR : rowOf P nm = some R) (h : rowR R (i :: hd) = some (r, i)) (hi : r[i]? = some w) (hb : (rule = "same" ∧ b = sameB w) ∨ (rule = "twice" ∧ b = twB r[i + 1]? w)) (q : ∀ s', Fz s s' → Q (.sh (.bool b)) s') : FRun f__law_lets_plain [.sh (wholeP P), .sh (plR nm (i :: hd)), .sh (.str rule)] s Q := by
  have hw : wdR R (i :: hd) = some w := by unfold wdR; rw [h]; exact hi
  have hl := place_len PO HR hw
  have hlt := (List.getElem?_eq_some_iff.mp hi).1
  refine frun_fn rfl ?_
  unfold m__law_lets_plain
  repeat walk_at "ds"
  refine law_row_ HR PO.np h (by omega) ?_
  rw [plR_L, plL_cons]
  repeat walk_at "ds"
  refine ⟨_, last_tup, ?_⟩
  repeat walk_at "ds"
  refine ⟨_, ix_at (encR_get hi), ?_⟩
  have sw := sh_word PO HR hw
  rw [enc_tl] at sw ⊢
  have hrl := (PO.row HR)
  have hrl : r.length ≤ 22 := wf_len hrl h
  repeat walk_at "ds"
  refine bx_add_tup (line_of (by rw [encR_len]; show _ + 1 ≤ _; omega)) ?_
  repeat walk_at "ds"
  refine ⟨_, last_tup, ?_⟩
  repeat walk_at "ds"
  refine ⟨_, ltr_ix hlt, ?_⟩
  repeat walk_at "ds"
  rcases hb with ⟨rfl, rfl⟩ | ⟨rfl, rfl⟩
  · repeat walk_at "ds"
    refine ⟨_, at0, ?_⟩
    repeat walk_at "ds"
    refine two_dec (fun hk => ?_) (fun hk => ?_)
    · obtain ⟨x, y, rfl⟩ := kw_copy hk
      repeat walk_at "ds"
      exact q _ (.trim (.refl s))
    · rw [same_no hk] at q
      repeat walk_at "ds"
      exact q _ (.trim (.refl s))
  · repeat walk_at "ds"
    refine ⟨_, at0, ?_⟩
    repeat walk_at "ds"
    refine two_in ["wipe", "clear"] (fun hk => ?_) (fun hk => ?_)
    · rw [tw_ltr hk] at q
      rw [enc_tl] at q
      have s2 : Sh 40 (ltrD r i) := by
        unfold ltrD
        cases e : r[i + 1]? with
        | some n => exact sh_word PO HR (q := (i + 1) :: hd) (by unfold wdR; rw [rowR_step h (k := i + 1)]; exact e)
        | none =>
          have s3 : Sh 1 (.tuple [.str "none"]) := Sh.tup fun d hd => by
            rw [List.mem_singleton] at hd
            subst hd
            exact Sh.str (n := 8) (Ok.lit _ _ (by decide))
          exact s3.mono (by decide)
      repeat walk_at "ds"
      refine bx_eq (.inr rfl) s2.ok sw.ok ?_
      repeat walk_at "ds"
      exact q _ (.trim (.refl s))
    · rw [tw_no hk] at q
      repeat walk_at "ds"
      exact q _ (.trim (.refl s))
end
end Ds.K60
namespace Ds.K60
open PySem PySem.Spec PyProof.Rows L2 Dn TL
theorem pickL_len {α : Type} (xs : List α) (lo : Int) (st : Int) (h : 0 < st) : (pickL xs (some lo) none (some st)).length ≤ xs.length := by
  unfold pickL
  refine Nat.le_trans (List.length_filterMap_le _ _) (sliceRange_length_le _ _ _ _ (fun hc => ?_) fun hc => ?_)
  · simp only [sliceBounds, Option.getD_some, h, if_true]
    exact ⟨Int.le_max_left _ _, Int.le_refl _⟩
  · exact absurd h hc
theorem pickL_mem {α : Type} {xs : List α} {lo hi st : Option Int} {x : α} (h : x ∈ pickL xs lo hi st) : x ∈ xs := by
  obtain ⟨i, _, h⟩ := List.mem_filterMap.mp h
  exact List.mem_of_getElem? h
theorem bx_step {xs : List D} {lo st : Int} {Q : D → Prop} (h0 : 0 < st) (hl : xs.length ≤ 16777216) (h : ∀ ys : List D, (∀ y ∈ ys, y ∈ xs) → Q (.list ys)) : ∃ c, dStep (.list xs) (some lo) (some st) = some c ∧ Q c := by
  refine ⟨_, if_pos ⟨fun e => ?_, Nat.le_trans (pickL_len xs lo st h0) hl⟩, h _ fun y hy => pickL_mem hy⟩
  injection e with e
  omega
theorem allP_len {Ws Bs : List Str} {P : Pg} (PO : PgOk Ws Bs P) : (allP P).length ≤ 16777216 := by
  have c1 := flat_len PO P.ds fun e he => he
  have c2 := row_count PO.main []
  have c3 : 22 * cW 3 = 15164710 := rfl
  have c4 := PO.dl
  unfold allP
  rw [List.length_append, pls_len]
  omega
theorem wd_split {R : Rw} : ∀ {q : List Nat} {w : Nd}, wdR R q = some w → ∃ i hd r, q = i :: hd ∧ rowR R (i :: hd) = some (r, i) ∧ r[i]? = some w
  | [], w, h => by cases h
  | i :: hd, w, h => by
    obtain ⟨r, k, h1, h2, _⟩ := wdR_some h
    obtain rfl := rowR_num h1
    exact ⟨k, hd, r, rfl, h1, h2⟩
section
variable {Ws Bs : List Str} {P : Pg}
theorem sh_whole {Q : Pg} (hB : ∀ x ∈ Bs, Bxo x) (hds : ∀ e ∈ P.ds, Ok 10 e.nm) (hd : ∀ e ∈ Q.ds, Ok 10 e.nm ∧ (∀ x ∈ e.ps, x ∈ Bs) ∧ (∀ x ∈ e.rs, x ∈ Bs) ∧ WfR P.ds Ws Bs 2 0 e.row) (hm : WfR P.ds Ws Bs 3 0 Q.main) : Sh 16 (wholeP Q) := by
  refine Sh.tup fun d h => ?_
  simp only [List.mem_cons, List.not_mem_nil, or_false] at h
  rcases h with rfl | rfl
  · refine (Sh.tup (n := 14) fun d h => ?_).mono (by decide)
    obtain ⟨e, he, rfl⟩ := List.mem_map.mp h
    obtain ⟨h1, h2, h3, h4⟩ := hd e he
    refine (Sh.tup (n := 13) fun d h => ?_)
    simp only [List.mem_cons, List.not_mem_nil, or_false] at h
    rcases h with rfl | rfl | rfl | rfl
    · exact Sh.str h1
    · exact (Sh.strs (k := 0) fun x hx => (hB x (h2 x hx)).ok).mono (by decide)
    · exact (Sh.strs (k := 0) fun x hx => (hB x (h3 x hx)).ok).mono (by decide)
    · exact (sh_row hB hds h4.2).mono (by decide)
  · exact (sh_row hB hds hm.2).mono (by decide)
theorem sh_cut (PO : PgOk Ws Bs P) {nm : Str} {p : List Nat} : Sh 16 (wholeP (cutP P nm p)) := by
  unfold cutP
  split
  · exact sh_whole PO.bs (fun e he => (PO.ds e he).1) PO.ds (cut_wf PO.main)
  · refine sh_whole PO.bs (fun e he => (PO.ds e he).1) (fun e he => ?_) PO.main
    obtain ⟨d, hd, rfl⟩ := List.mem_map.mp he
    obtain ⟨h1, h2, h3, h4⟩ := PO.ds d hd
    unfold cutD1
    split
    · exact ⟨h1, h2, h3, cut_wf h4⟩
    · exact ⟨h1, h2, h3, h4⟩
theorem sh_told (PO : PgOk Ws Bs P) {nm : Str} {p : List Nat} {b : Bool} : Sh 17 (toldD b P nm p) := by
  unfold toldD
  split
  · refine Sh.tup fun d h => ?_
    simp only [List.mem_cons, List.not_mem_nil, or_false] at h
    rcases h with rfl | rfl
    · exact Sh.str (n := 8) (Ok.lit _ _ (by decide))
    · exact sh_cut PO
  · refine Sh.tup fun d h => ?_
    simp only [List.mem_cons, List.not_mem_nil, or_false] at h
    rcases h with rfl | rfl
    · exact Sh.str (n := 8) (Ok.lit _ _ (by decide))
    · exact ⟨rfl, Nat.zero_le _⟩
end
end Ds.K60
namespace Ds.K60
open PySem PySem.Spec PyProof.Rows L2 Dn TL
theorem good : Good := by
  intro ns hns
  suffices H : FRun f_law [.sh (.list (ns.map PyData.int))] [] fun c s => c = .sh (.bool true) by
    obtain ⟨c, s', h1, rfl⟩ := H.to
    exact ⟨s', h1⟩
  refine frun_fn rfl ?_
  unfold m_law
  repeat walk_at "ds"
  refine deck_ hns fun s1 D1 F1 => ?_
  repeat walk_at "ds"
  refine names_ D1 fun xs s2 hx hn hxl D2 F2 => ?_
  repeat walk_at "ds"
  refine some__ D2 (by decide) fun v s4 hv D4 F4 => ?_
  repeat walk_at "ds"
  refine program_ D4 hx hn hxl (by omega) fun P Ws Bs s5 NP HD HM hB h6 D5 F5 => ?_
  have PO : PgOk Ws Bs P := ⟨NP, hB, HD, HM, h6⟩
  repeat walk_at "ds"
  refine all_spots_ PO fun s6 F6 => ?_
  have D6 := D5.fz F6
  have hal := allP_len PO
  repeat walk_at "ds"
  refine draw D6 (by omega) fun n1 s7 a7 b7 D7 F7 => ?_
  repeat walk_at "ds"
  refine bx_step (by omega) hal fun ys hy => ?_
  repeat walk_at "ds"
  refine run_forL _ (fun k e s' => Dq ([] : St).length s' ∧ ∃ z6 z7 z8, e = [.sh (.list (ns.map PyData.int)), .lo ([] : St).length, .sh (.list (xs.map PyData.str)), .sh (wholeP P), .sh (.list (allP P)), .sh (.int (1 + ((allP P).length : Int) / 20)), z6, z7, z8]) ⟨D7, _, _, _, rfl⟩ (fun k d e s' hd hI => ?_) fun e s' hI => ?_
  · obtain ⟨D8, z6, z7, z8, rfl⟩ := hI
    obtain ⟨nm, R, q, w, rfl, HR, hw⟩ := allP_mem NP (hy d (List.mem_of_getElem? hd))
    obtain ⟨i, hd', r, rfl, h, hi⟩ := wd_split hw
    have hl := place_len PO HR hw
    have hF : wordF R (i :: hd').reverse = some w := by rw [wd_F]; exact hw
    have hp : (i :: hd').reverse.length < 28 := by rw [List.length_reverse]; omega
    refine ⟨_, rfl, ?_⟩
    repeat walk_at "ds"
    refine run_forL _ (fun k e s' => Dq ([] : St).length s' ∧ ∃ z7 z8, e = [.sh (.list (ns.map PyData.int)), .lo ([] : St).length, .sh (.list (xs.map PyData.str)), .sh (wholeP P), .sh (.list (allP P)), .sh (.int (1 + ((allP P).length : Int) / 20)), .sh (plR nm (i :: hd')), z7, z8]) ⟨D8, _, _, rfl⟩ (fun k d e s' hd hI => ?_) fun e s' hI => ?_
    · obtain ⟨D9, z7, z8, rfl⟩ := hI
      have hd := List.mem_of_getElem? hd
      obtain ⟨rule, b, rfl, hb⟩ : ∃ (rule : Str) (b : Bool), d = .str rule ∧ ((rule = "same" ∧ b = sameB w) ∨ (rule = "twice" ∧ b = twB r[i + 1]? w)) := by
        have hd : d ∈ [PyData.str "same", .str "twice"] := hd
        simp only [List.mem_cons, List.not_mem_nil, or_false] at hd
        rcases hd with rfl | rfl
        · exact ⟨_, _, rfl, .inl ⟨rfl, rfl⟩⟩
        · exact ⟨_, _, rfl, .inr ⟨rfl, rfl⟩⟩
      have st := sh_told PO (nm := nm) (p := (i :: hd').reverse) (b := b)
      refine ⟨_, rfl, ?_⟩
      repeat walk_at "ds"
      refine lets_plain_ PO HR h hi hb fun sa Fa => ?_
      have Da := D9.fz Fa
      cases b with
      | true =>
        repeat walk_at "ds"
        rw [pl_ints]
        refine law_without_ PO HR hF hp fun sb Fb => ?_
        have Db := Da.fz Fb
        repeat walk_at "ds"
        refine told_ PO HR h hi hb fun sc Fc => ?_
        have Dc := Db.fz Fc
        repeat walk_at "ds"
        have et : toldD true P nm (i :: hd').reverse = .tuple [.str "told", wholeP (cutP P nm (i :: hd').reverse)] := rfl
        rw [et] at st ⊢
        refine bx_ne (.inl rfl) st.ok st.ok ?_
        rw [st.same]
        repeat walk_at "ds"
        exact ⟨Dc, _, _, rfl⟩
      | false =>
        repeat walk_at "ds"
        refine told_ PO HR h hi hb fun sc Fc => ?_
        have Dc := Da.fz Fc
        repeat walk_at "ds"
        have et : toldD false P nm (i :: hd').reverse = .tuple [.str "refused", .bool true] := rfl
        rw [et] at st ⊢
        refine bx_ne (.inl rfl) st.ok st.ok ?_
        rw [st.same]
        repeat walk_at "ds"
        exact ⟨Dc, _, _, rfl⟩
    · obtain ⟨D9, z7, z8, rfl⟩ := hI
      exact turn_nx ⟨D9, _, _, _, rfl⟩
  · obtain ⟨D8, z6, z7, z8, rfl⟩ := hI
    repeat walk_at "ds"
    rfl
end Ds.K60
namespace Ds.K60
open PySem PySem.Spec PyProof.Rows L2 Dn
theorem room65 {k : Nat} {A : Around} (r : Room k A) : A.units + 65 < cLine := by have := r.un; omega
def topS (i : Nat) : Stmt := PySem.Challenge.pw_wipeways_k60_same_and_twice.main.body.getD i (.Pass ⟨0, 0, 0, 0⟩)
abbrev s_rows_in : Stmt := topS 4
abbrev N_rows_in : List Str := ["word"]
theorem sc_rows_in : FnScope N_rows_in ["word"] (defScope s_rows_in) := ⟨rfl, rfl, rfl, by decide +kernel, rfl, by decide +kernel, by decide +kernel⟩
abbrev s_def_of : Stmt := topS 5
abbrev N_def_of : List Str := ["program", "name", "one"]
theorem sc_def_of : FnScope N_def_of ["program", "name"] (defScope s_def_of) := ⟨rfl, rfl, rfl, by decide +kernel, rfl, by decide +kernel, by decide +kernel⟩
abbrev s_row_of : Stmt := topS 6
abbrev N_row_of : List Str := ["program", "name"]
theorem sc_row_of : FnScope N_row_of ["program", "name"] (defScope s_row_of) := ⟨rfl, rfl, rfl, by decide +kernel, rfl, by decide +kernel, by decide +kernel⟩
abbrev s_words_along : Stmt := topS 8
abbrev N_words_along : List Str := ["program", "place", "row", "found", "at"]
theorem sc_words_along : FnScope N_words_along ["program", "place"] (defScope s_words_along) := ⟨rfl, rfl, rfl, by decide +kernel, rfl, by decide +kernel, by decide +kernel⟩
abbrev s_word_at : Stmt := topS 9
abbrev N_word_at : List Str := ["program", "place", "row", "number"]
theorem sc_word_at : FnScope N_word_at ["program", "place"] (defScope s_word_at) := ⟨rfl, rfl, rfl, by decide +kernel, rfl, by decide +kernel, by decide +kernel⟩
abbrev s_places_from : Stmt := topS 14
abbrev N_places_from : List Str := ["row", "ahead", "found", "number", "word", "which", "inner"]
theorem sc_places_from : FnScope N_places_from ["row", "ahead"] (defScope s_places_from) := ⟨rfl, rfl, rfl, by decide +kernel, rfl, by decide +kernel, by decide +kernel⟩
abbrev s_places_of : Stmt := topS 15
abbrev N_places_of : List Str := ["program", "name", "row"]
theorem sc_places_of : FnScope N_places_of ["program", "name"] (defScope s_places_of) := ⟨rfl, rfl, rfl, by decide +kernel, rfl, by decide +kernel, by decide +kernel⟩
abbrev s_next_word : Stmt := topS 46
abbrev N_next_word : List Str := ["program", "place", "after"]
theorem sc_next_word : FnScope N_next_word ["program", "place"] (defScope s_next_word) := ⟨rfl, rfl, rfl, by decide +kernel, rfl, by decide +kernel, by decide +kernel⟩
abbrev s_lets : Stmt := topS 50
abbrev N_lets : List Str := ["program", "place", "rule", "known", "word"]
theorem sc_lets : FnScope N_lets ["program", "place", "rule", "known"] (defScope s_lets) := ⟨rfl, rfl, rfl, by decide +kernel, rfl, by decide +kernel, by decide +kernel⟩
abbrev s_row_without : Stmt := topS 51
abbrev N_row_without : List Str := ["row", "numbers", "at", "word", "fresh", "rows"]
theorem sc_row_without : FnScope N_row_without ["row", "numbers"] (defScope s_row_without) := ⟨rfl, rfl, rfl, by decide +kernel, rfl, by decide +kernel, by decide +kernel⟩
abbrev s_without : Stmt := topS 52
abbrev N_without : List Str := ["program", "place", "made", "one", "defs", "row"]
theorem sc_without : FnScope N_without ["program", "place"] (defScope s_without) := ⟨rfl, rfl, rfl, by decide +kernel, rfl, by decide +kernel, by decide +kernel⟩
abbrev s_is_place : Stmt := topS 53
abbrev N_is_place : List Str := ["program", "thing", "number", "one"]
theorem sc_is_place : FnScope N_is_place ["program", "thing"] (defScope s_is_place) := ⟨rfl, rfl, rfl, by decide +kernel, rfl, by decide +kernel, by decide +kernel⟩
abbrev s_turned : Stmt := topS 54
abbrev N_turned : List Str := ["program", "turn", "known", "place", "rule"]
theorem sc_turned : FnScope N_turned ["program", "turn"] (defScope s_turned) := ⟨rfl, rfl, rfl, by decide +kernel, rfl, by decide +kernel, by decide +kernel⟩
abbrev s__law_deck : Stmt := topS 56
abbrev N__law_deck : List Str := ["_law_script", "_law_cells", "_law_k", "_law_cell"]
theorem sc__law_deck : FnScope N__law_deck ["_law_script"] (defScope s__law_deck) := ⟨rfl, rfl, rfl, by decide +kernel, rfl, by decide +kernel, by decide +kernel⟩
abbrev s__law_draw : Stmt := topS 57
abbrev N__law_draw : List Str := ["_law_deck_here", "_law_most", "_law_cell", "_law_number"]
theorem sc__law_draw : FnScope N__law_draw ["_law_deck_here", "_law_most"] (defScope s__law_draw) := ⟨rfl, rfl, rfl, by decide +kernel, rfl, by decide +kernel, by decide +kernel⟩
abbrev s__law_some : Stmt := topS 58
abbrev N__law_some : List Str := ["_law_deck_here", "_law_few", "_law_most"]
theorem sc__law_some : FnScope N__law_some ["_law_deck_here", "_law_few", "_law_most"] (defScope s__law_some) := ⟨rfl, rfl, rfl, by decide +kernel, rfl, by decide +kernel, by decide +kernel⟩
abbrev s__law_names : Stmt := topS 59
abbrev N__law_names : List Str := ["_law_deck_here", "_law_many", "_law_letters", "_law_base", "_law_at", "_law_first", "_law_found", "_law_k"]
theorem sc__law_names : FnScope N__law_names ["_law_deck_here", "_law_many"] (defScope s__law_names) := ⟨rfl, rfl, rfl, by decide +kernel, rfl, by decide +kernel, by decide +kernel⟩
abbrev s__law_boxes : Stmt := topS 60
abbrev N__law_boxes : List Str := ["_law_deck_here", "_law_names_here", "_law_some_here"]
theorem sc__law_boxes : FnScope N__law_boxes ["_law_deck_here", "_law_names_here"] (defScope s__law_boxes) := ⟨rfl, rfl, rfl, by decide +kernel, rfl, by decide +kernel, by decide +kernel⟩
abbrev s__law_one_of : Stmt := topS 61
abbrev N__law_one_of : List Str := ["_law_deck_here", "_law_some_here"]
theorem sc__law_one_of : FnScope N__law_one_of ["_law_deck_here", "_law_some_here"] (defScope s__law_one_of) := ⟨rfl, rfl, rfl, by decide +kernel, rfl, by decide +kernel, by decide +kernel⟩
abbrev s__law_picked : Stmt := topS 62
abbrev N__law_picked : List Str := ["_law_deck_here", "_law_some_here", "_law_many", "_law_rest", "_law_found", "_law_k"]
theorem sc__law_picked : FnScope N__law_picked ["_law_deck_here", "_law_some_here", "_law_many"] (defScope s__law_picked) := ⟨rfl, rfl, rfl, by decide +kernel, rfl, by decide +kernel, by decide +kernel⟩
abbrev s__law_plain : Stmt := topS 63
abbrev N__law_plain : List Str := ["_law_deck_here", "_law_case", "_law_way", "_law_x", "_law_y", "_law_z", "_law_k"]
theorem sc__law_plain : FnScope N__law_plain ["_law_deck_here", "_law_case"] (defScope s__law_plain) := ⟨rfl, rfl, rfl, by decide +kernel, rfl, by decide +kernel, by decide +kernel⟩
abbrev s__law_dressed : Stmt := topS 65
abbrev N__law_dressed : List Str := ["_law_deck_here", "_law_boxes_here", "_law_word", "_law_way", "_law_box", "_law_number"]
theorem sc__law_dressed : FnScope N__law_dressed ["_law_deck_here", "_law_boxes_here", "_law_word"] (defScope s__law_dressed) := ⟨rfl, rfl, rfl, by decide +kernel, rfl, by decide +kernel, by decide +kernel⟩
abbrev s__law_leading : Stmt := topS 64
abbrev N__law_leading : List Str := ["_law_deck_here", "_law_case", "_law_deep", "_law_loops", "_law_way", "_law_args", "_law_gets", "_law_row_here", "_law_out", "_law_many", "_law_name", "_law_params", "_law_results", "_law_k"]
theorem sc__law_leading : FnScope N__law_leading ["_law_deck_here", "_law_case", "_law_deep", "_law_loops"] (defScope s__law_leading) := ⟨rfl, rfl, rfl, by decide +kernel, rfl, by decide +kernel, by decide +kernel⟩
abbrev s__law_grown : Stmt := topS 66
abbrev N__law_grown : List Str := ["_law_deck_here", "_law_case", "_law_deep", "_law_loops", "_law_most", "_law_found", "_law_k", "_law_word"]
theorem sc__law_grown : FnScope N__law_grown ["_law_deck_here", "_law_case", "_law_deep", "_law_loops", "_law_most"] (defScope s__law_grown) := ⟨rfl, rfl, rfl, by decide +kernel, rfl, by decide +kernel, by decide +kernel⟩
abbrev s__law_program : Stmt := topS 67
abbrev N__law_program : List Str := ["_law_deck_here", "_law_names_here", "_law_many", "_law_most", "_law_boxes_here", "_law_case", "_law_defs", "_law_k", "_law_params", "_law_results"]
theorem sc__law_program : FnScope N__law_program ["_law_deck_here", "_law_names_here", "_law_many", "_law_most"] (defScope s__law_program) := ⟨rfl, rfl, rfl, by decide +kernel, rfl, by decide +kernel, by decide +kernel⟩
abbrev s__law_spots : Stmt := topS 68
abbrev N__law_spots : List Str := ["_law_row_here", "_law_head", "_law_found", "_law_k", "_law_word", "_law_rows", "_law_j", "_law_one"]
theorem sc__law_spots : FnScope N__law_spots ["_law_row_here", "_law_head"] (defScope s__law_spots) := ⟨rfl, rfl, rfl, by decide +kernel, rfl, by decide +kernel, by decide +kernel⟩
abbrev s__law_all_spots : Stmt := topS 69
abbrev N__law_all_spots : List Str := ["_law_program_here", "_law_found", "_law_one"]
theorem sc__law_all_spots : FnScope N__law_all_spots ["_law_program_here"] (defScope s__law_all_spots) := ⟨rfl, rfl, rfl, by decide +kernel, rfl, by decide +kernel, by decide +kernel⟩
abbrev s__law_cut : Stmt := topS 70
abbrev N__law_cut : List Str := ["_law_row_here", "_law_numbers", "_law_at", "_law_word", "_law_rows", "_law_k", "_law_one"]
theorem sc__law_cut : FnScope N__law_cut ["_law_row_here", "_law_numbers"] (defScope s__law_cut) := ⟨rfl, rfl, rfl, by decide +kernel, rfl, by decide +kernel, by decide +kernel⟩
abbrev s__law_without : Stmt := topS 71
abbrev N__law_without : List Str := ["_law_program_here", "_law_place", "_law_made", "_law_one"]
theorem sc__law_without : FnScope N__law_without ["_law_program_here", "_law_place"] (defScope s__law_without) := ⟨rfl, rfl, rfl, by decide +kernel, rfl, by decide +kernel, by decide +kernel⟩
abbrev s__law_told : Stmt := topS 72
abbrev N__law_told : List Str := ["_law_program_here", "_law_turn", "_law_found", "e", "_law_odd"]
theorem sc__law_told : FnScope N__law_told ["_law_program_here", "_law_turn"] (defScope s__law_told) := ⟨rfl, rfl, rfl, by decide +kernel, rfl, by decide +kernel, by decide +kernel⟩
abbrev s__law_row : Stmt := topS 73
abbrev N__law_row : List Str := ["_law_program_here", "_law_place", "_law_row_here", "_law_one", "_law_k", "_law_word"]
theorem sc__law_row : FnScope N__law_row ["_law_program_here", "_law_place"] (defScope s__law_row) := ⟨rfl, rfl, rfl, by decide +kernel, rfl, by decide +kernel, by decide +kernel⟩
abbrev s__law_lets_plain : Stmt := topS 74
abbrev N__law_lets_plain : List Str := ["_law_program_here", "_law_place", "_law_rule", "_law_row_here", "_law_word", "_law_later"]
theorem sc__law_lets_plain : FnScope N__law_lets_plain ["_law_program_here", "_law_place", "_law_rule"] (defScope s__law_lets_plain) := ⟨rfl, rfl, rfl, by decide +kernel, rfl, by decide +kernel, by decide +kernel⟩
abbrev s_law : Stmt := topS 75
abbrev N_law : List Str := ["_law_script", "_law_deck_here", "_law_names_here", "_law_program_here", "_law_places", "_law_step", "_law_place", "_law_rule", "_law_due"]
theorem sc_law : FnScope N_law ["_law_script"] (defScope s_law) := ⟨rfl, rfl, rfl, by decide +kernel, rfl, by decide +kernel, by decide +kernel⟩
structure Tx (w : World) (K : Frag) (mg : Str → Option Value) where
  a_rows_in : Addr
  d_rows_in : FuncData
  F_rows_in : Fun K "rows_in" "rows_in" s_rows_in a_rows_in d_rows_in
  b_rows_in : Binds K d_rows_in ["word"] []
  g_rows_in : mg "rows_in" = some (.ref a_rows_in)
  a_def_of : Addr
  d_def_of : FuncData
  F_def_of : Fun K "def_of" "def_of" s_def_of a_def_of d_def_of
  b_def_of : Binds K d_def_of ["program", "name"] []
  g_def_of : mg "def_of" = some (.ref a_def_of)
  a_row_of : Addr
  d_row_of : FuncData
  F_row_of : Fun K "row_of" "row_of" s_row_of a_row_of d_row_of
  b_row_of : Binds K d_row_of ["program", "name"] []
  g_row_of : mg "row_of" = some (.ref a_row_of)
  a_words_along : Addr
  d_words_along : FuncData
  F_words_along : Fun K "words_along" "words_along" s_words_along a_words_along d_words_along
  b_words_along : Binds K d_words_along ["program", "place"] []
  g_words_along : mg "words_along" = some (.ref a_words_along)
  a_word_at : Addr
  d_word_at : FuncData
  F_word_at : Fun K "word_at" "word_at" s_word_at a_word_at d_word_at
  b_word_at : Binds K d_word_at ["program", "place"] []
  g_word_at : mg "word_at" = some (.ref a_word_at)
  a_places_from : Addr
  d_places_from : FuncData
  F_places_from : Fun K "places_from" "places_from" s_places_from a_places_from d_places_from
  b_places_from : Binds K d_places_from ["row", "ahead"] []
  g_places_from : mg "places_from" = some (.ref a_places_from)
  a_places_of : Addr
  d_places_of : FuncData
  F_places_of : Fun K "places_of" "places_of" s_places_of a_places_of d_places_of
  b_places_of : Binds K d_places_of ["program", "name"] []
  g_places_of : mg "places_of" = some (.ref a_places_of)
  a_next_word : Addr
  d_next_word : FuncData
  F_next_word : Fun K "next_word" "next_word" s_next_word a_next_word d_next_word
  b_next_word : Binds K d_next_word ["program", "place"] []
  g_next_word : mg "next_word" = some (.ref a_next_word)
  a_lets : Addr
  d_lets : FuncData
  F_lets : Fun K "lets" "lets" s_lets a_lets d_lets
  b_lets : Binds K d_lets ["program", "place", "rule", "known"] []
  g_lets : mg "lets" = some (.ref a_lets)
  a_row_without : Addr
  d_row_without : FuncData
  F_row_without : Fun K "row_without" "row_without" s_row_without a_row_without d_row_without
  b_row_without : Binds K d_row_without ["row", "numbers"] []
  g_row_without : mg "row_without" = some (.ref a_row_without)
  a_without : Addr
  d_without : FuncData
  F_without : Fun K "without" "without" s_without a_without d_without
  b_without : Binds K d_without ["program", "place"] []
  g_without : mg "without" = some (.ref a_without)
  a_is_place : Addr
  d_is_place : FuncData
  F_is_place : Fun K "is_place" "is_place" s_is_place a_is_place d_is_place
  b_is_place : Binds K d_is_place ["program", "thing"] []
  g_is_place : mg "is_place" = some (.ref a_is_place)
  a_turned : Addr
  d_turned : FuncData
  F_turned : Fun K "turned" "turned" s_turned a_turned d_turned
  b_turned : Binds K d_turned ["program", "turn"] []
  g_turned : mg "turned" = some (.ref a_turned)
  a__law_deck : Addr
  d__law_deck : FuncData
  F__law_deck : Fun K "_law_deck" "_law_deck" s__law_deck a__law_deck d__law_deck
  b__law_deck : Binds K d__law_deck ["_law_script"] []
  g__law_deck : mg "_law_deck" = some (.ref a__law_deck)
  a__law_draw : Addr
  d__law_draw : FuncData
  F__law_draw : Fun K "_law_draw" "_law_draw" s__law_draw a__law_draw d__law_draw
  b__law_draw : Binds K d__law_draw ["_law_deck_here", "_law_most"] []
  g__law_draw : mg "_law_draw" = some (.ref a__law_draw)
  a__law_some : Addr
  d__law_some : FuncData
  F__law_some : Fun K "_law_some" "_law_some" s__law_some a__law_some d__law_some
  b__law_some : Binds K d__law_some ["_law_deck_here", "_law_few", "_law_most"] []
  g__law_some : mg "_law_some" = some (.ref a__law_some)
  a__law_names : Addr
  d__law_names : FuncData
  F__law_names : Fun K "_law_names" "_law_names" s__law_names a__law_names d__law_names
  b__law_names : Binds K d__law_names ["_law_deck_here", "_law_many"] []
  g__law_names : mg "_law_names" = some (.ref a__law_names)
  a__law_boxes : Addr
  d__law_boxes : FuncData
  F__law_boxes : Fun K "_law_boxes" "_law_boxes" s__law_boxes a__law_boxes d__law_boxes
  b__law_boxes : Binds K d__law_boxes ["_law_deck_here", "_law_names_here"] []
  g__law_boxes : mg "_law_boxes" = some (.ref a__law_boxes)
  a__law_one_of : Addr
  d__law_one_of : FuncData
  F__law_one_of : Fun K "_law_one_of" "_law_one_of" s__law_one_of a__law_one_of d__law_one_of
  b__law_one_of : Binds K d__law_one_of ["_law_deck_here", "_law_some_here"] []
  g__law_one_of : mg "_law_one_of" = some (.ref a__law_one_of)
  a__law_picked : Addr
  d__law_picked : FuncData
  F__law_picked : Fun K "_law_picked" "_law_picked" s__law_picked a__law_picked d__law_picked
  b__law_picked : Binds K d__law_picked ["_law_deck_here", "_law_some_here", "_law_many"] []
  g__law_picked : mg "_law_picked" = some (.ref a__law_picked)
  a__law_plain : Addr
  d__law_plain : FuncData
  F__law_plain : Fun K "_law_plain" "_law_plain" s__law_plain a__law_plain d__law_plain
  b__law_plain : Binds K d__law_plain ["_law_deck_here", "_law_case"] []
  g__law_plain : mg "_law_plain" = some (.ref a__law_plain)
  a__law_dressed : Addr
  d__law_dressed : FuncData
  F__law_dressed : Fun K "_law_dressed" "_law_dressed" s__law_dressed a__law_dressed d__law_dressed
  b__law_dressed : Binds K d__law_dressed ["_law_deck_here", "_law_boxes_here", "_law_word"] []
  g__law_dressed : mg "_law_dressed" = some (.ref a__law_dressed)
  a__law_leading : Addr
  d__law_leading : FuncData
  F__law_leading : Fun K "_law_leading" "_law_leading" s__law_leading a__law_leading d__law_leading
  b__law_leading : Binds K d__law_leading ["_law_deck_here", "_law_case", "_law_deep", "_law_loops"] []
  g__law_leading : mg "_law_leading" = some (.ref a__law_leading)
  a__law_grown : Addr
  d__law_grown : FuncData
  F__law_grown : Fun K "_law_grown" "_law_grown" s__law_grown a__law_grown d__law_grown
  b__law_grown : Binds K d__law_grown ["_law_deck_here", "_law_case", "_law_deep", "_law_loops", "_law_most"] []
  g__law_grown : mg "_law_grown" = some (.ref a__law_grown)
  a__law_program : Addr
  d__law_program : FuncData
  F__law_program : Fun K "_law_program" "_law_program" s__law_program a__law_program d__law_program
  b__law_program : Binds K d__law_program ["_law_deck_here", "_law_names_here", "_law_many", "_law_most"] []
  g__law_program : mg "_law_program" = some (.ref a__law_program)
  a__law_spots : Addr
  d__law_spots : FuncData
  F__law_spots : Fun K "_law_spots" "_law_spots" s__law_spots a__law_spots d__law_spots
  b__law_spots : Binds K d__law_spots ["_law_row_here", "_law_head"] []
  g__law_spots : mg "_law_spots" = some (.ref a__law_spots)
  a__law_all_spots : Addr
  d__law_all_spots : FuncData
  F__law_all_spots : Fun K "_law_all_spots" "_law_all_spots" s__law_all_spots a__law_all_spots d__law_all_spots
  b__law_all_spots : Binds K d__law_all_spots ["_law_program_here"] []
  g__law_all_spots : mg "_law_all_spots" = some (.ref a__law_all_spots)
  a__law_cut : Addr
  d__law_cut : FuncData
  F__law_cut : Fun K "_law_cut" "_law_cut" s__law_cut a__law_cut d__law_cut
  b__law_cut : Binds K d__law_cut ["_law_row_here", "_law_numbers"] []
  g__law_cut : mg "_law_cut" = some (.ref a__law_cut)
  a__law_without : Addr
  d__law_without : FuncData
  F__law_without : Fun K "_law_without" "_law_without" s__law_without a__law_without d__law_without
  b__law_without : Binds K d__law_without ["_law_program_here", "_law_place"] []
  g__law_without : mg "_law_without" = some (.ref a__law_without)
  a__law_told : Addr
  d__law_told : FuncData
  F__law_told : Fun K "_law_told" "_law_told" s__law_told a__law_told d__law_told
  b__law_told : Binds K d__law_told ["_law_program_here", "_law_turn"] []
  g__law_told : mg "_law_told" = some (.ref a__law_told)
  a__law_row : Addr
  d__law_row : FuncData
  F__law_row : Fun K "_law_row" "_law_row" s__law_row a__law_row d__law_row
  b__law_row : Binds K d__law_row ["_law_program_here", "_law_place"] []
  g__law_row : mg "_law_row" = some (.ref a__law_row)
  a__law_lets_plain : Addr
  d__law_lets_plain : FuncData
  F__law_lets_plain : Fun K "_law_lets_plain" "_law_lets_plain" s__law_lets_plain a__law_lets_plain d__law_lets_plain
  b__law_lets_plain : Binds K d__law_lets_plain ["_law_program_here", "_law_place", "_law_rule"] []
  g__law_lets_plain : mg "_law_lets_plain" = some (.ref a__law_lets_plain)
  a_law : Addr
  d_law : FuncData
  F_law : Fun K "law" "law" s_law a_law d_law
  b_law : Binds K d_law ["_law_script"] []
  g_law : mg "law" = some (.ref a_law)
  z_ValueError : mg "ValueError" = none
  z_bool : mg "bool" = none
  z_enumerate : mg "enumerate" = none
  z_int : mg "int" = none
  z_isinstance : mg "isinstance" = none
  z_len : mg "len" = none
  z_list : mg "list" = none
  z_min : mg "min" = none
  z_range : mg "range" = none
  z_str : mg "str" = none
  z_sum : mg "sum" = none
  z_tuple : mg "tuple" = none
  u_MAKERS : Value
  x_MAKERS : V
  g_MAKERS : mg "MAKERS" = some u_MAKERS
  v_MAKERS : RelV x_MAKERS u_MAKERS
  r_MAKERS : ∀ H, Rp K H x_MAKERS c_MAKERS
  u_RULES : Value
  x_RULES : V
  g_RULES : mg "RULES" = some u_RULES
  v_RULES : RelV x_RULES u_RULES
  r_RULES : ∀ H, Rp K H x_RULES c_RULES
  C_NoAnswer : Addr
  cl_NoAnswer : clsA K "NoAnswer" = some C_NoAnswer
  g_NoAnswer : mg "NoAnswer" = some (.ref C_NoAnswer)
  C_NoCode : Addr
  cl_NoCode : clsA K "NoCode" = some C_NoCode
  g_NoCode : mg "NoCode" = some (.ref C_NoCode)
  C_NoRow : Addr
  cl_NoRow : clsA K "NoRow" = some C_NoRow
  g_NoRow : mg "NoRow" = some (.ref C_NoRow)
  C_NoText : Addr
  cl_NoText : clsA K "NoText" = some C_NoText
  g_NoText : mg "NoText" = some (.ref C_NoText)
  C_NoTurn : Addr
  cl_NoTurn : clsA K "NoTurn" = some C_NoTurn
  g_NoTurn : mg "NoTurn" = some (.ref C_NoTurn)
  C_TooLong : Addr
  cl_TooLong : clsA K "TooLong" = some C_TooLong
  g_TooLong : mg "TooLong" = some (.ref C_TooLong)
  C_WipeError : Addr
  cl_WipeError : clsA K "WipeError" = some C_WipeError
  g_WipeError : mg "WipeError" = some (.ref C_WipeError)
  ec_NoTurn : ExcC K C_NoTurn
  ex_NoTurn : PySem.W.excIn K C_NoTurn [.type "ValueError", .type "Exception", .type "BaseException", .type "object"] "ValueError.__new__" = true
  kp_NoTurn : PySem.W.keepIn K (.ref C_NoTurn) = true
  sb_NoTurn : PySem.W.subIn K (.ref C_NoTurn) (.type "BaseException") = some true
  ty_NoTurn : PySem.W.typeIn K (.ref C_NoTurn) = some (.type "type")
  h_0 : hitB K (.ref C_WipeError) [("NoTurn", true)] = true
  ki_0 : PySem.W.kitAny K (.ref C_NoTurn) [.ref C_NoAnswer, .ref C_NoCode, .ref C_NoRow, .ref C_NoText, .ref C_TooLong] = some false
  ki_1 : PySem.W.kitOne K (.ref C_NoTurn) (.type "ValueError") = some true
  ki_2 : PySem.W.kitOne K (.ref C_NoTurn) (.ref C_NoTurn) = some true
section
variable {P : Program} {w : World} {K : Frag} {mg : Str → Option Value} {base : Heap}
theorem ok_rows_in (T : Tx w K mg) : FnOk P w K mg base CX0 1 T.a_rows_in T.d_rows_in ["word"] (spF K 1 f_rows_in) := by
  have sc := sc_rows_in
  refine fn_J T.F_rows_in sc rfl rfl (by decide) fun cdv A outer s H E hr => ?_
  exact (jss_cons (js_if (jt_cmp (op_eqA hr.units) os_eq (je_ix (je_var (i := 0) rfl (by first | exact Or.inl rfl | exact Or.inr (Or.inl rfl) | exact Or.inr (Or.inr rfl))) je_int (fun _ _ => rfl)) je_str (nomark _))
    (jss_one (js_ret (jc_sh (je_ix (je_var (i := 0) rfl (by first | exact Or.inl rfl | exact Or.inr (Or.inl rfl) | exact Or.inr (Or.inr rfl))) je_int (fun _ _ => rfl)))))
    jss_nil)
    (jss_cons (js_if (jt_cmp (op_eqA hr.units) os_eq (je_ix (je_var (i := 0) rfl (by first | exact Or.inl rfl | exact Or.inr (Or.inl rfl) | exact Or.inr (Or.inr rfl))) je_int (fun _ _ => rfl)) je_str (nomark _))
    (jss_one (js_ret (jc_sh (je_tup (ja_c (jc_sh (je_ix (je_var (i := 0) rfl (by first | exact Or.inl rfl | exact Or.inr (Or.inl rfl) | exact Or.inr (Or.inr rfl))) je_int (fun _ _ => rfl))) ja_nil)))))
    jss_nil)
    (jss_one (js_ret (jc_sh (je_tup ja_nil))))))
theorem ok_def_of (T : Tx w K mg) : FnOk P w K mg base CX0 1 T.a_def_of T.d_def_of ["program", "name"] (spF K 2 f_def_of) := by
  have sc := sc_def_of
  refine fn_J T.F_def_of sc rfl rfl (by decide) fun cdv A outer s H E hr => ?_
  exact (jss_cons (js_for PassesOwn.never rfl (ji_any (je_ix (je_var (i := 0) rfl (by first | exact Or.inl rfl | exact Or.inr (Or.inl rfl) | exact Or.inr (Or.inr rfl))) je_int (fun _ _ => rfl))) (jg_name (i := 2) sc.nd rfl (by first | exact Or.inl rfl | exact Or.inr rfl))
    (jss_one (js_if (jt_cmp (op_eqA hr.units) os_eq (je_ix (je_var (i := 2) rfl (by first | exact Or.inl rfl | exact Or.inr (Or.inl rfl) | exact Or.inr (Or.inr rfl))) je_int (fun _ _ => rfl)) (je_var (i := 1) rfl (by first | exact Or.inl rfl | exact Or.inr (Or.inl rfl) | exact Or.inr (Or.inr rfl))) (nomark _))
    (jss_one (js_ret (jc_sh (je_var (i := 2) rfl (by first | exact Or.inl rfl | exact Or.inr (Or.inl rfl) | exact Or.inr (Or.inr rfl))))))
    jss_nil)))
    (jss_one (js_ret (jc_sh je_non))))
theorem ok_row_of (T : Tx w K mg) : FnOk P w K mg base CX0 2 T.a_row_of T.d_row_of ["program", "name"] (spF K 2 f_row_of) := by
  have sc := sc_row_of
  refine fn_J T.F_row_of sc rfl rfl (by decide) fun cdv A outer s H E hr => ?_
  exact (jss_cons (js_if (jt_cmp (op_eqA hr.units) os_eq (je_var (i := 1) rfl (by first | exact Or.inl rfl | exact Or.inr (Or.inl rfl) | exact Or.inr (Or.inr rfl))) je_str (nomark _))
    (jss_one (js_ret (jc_sh (je_ix (je_var (i := 0) rfl (by first | exact Or.inl rfl | exact Or.inr (Or.inl rfl) | exact Or.inr (Or.inr rfl))) je_int (fun _ _ => rfl)))))
    jss_nil)
    (jss_one (js_ret (jc_sh (je_ix (je_cell (jc_call (ok_def_of T) rfl (hr.mono (by decide)) (by rfl) T.g_def_of T.F_def_of.kp T.b_def_of (ja_c (jc_sh (je_var (i := 0) rfl (by first | exact Or.inl rfl | exact Or.inr (Or.inl rfl) | exact Or.inr (Or.inr rfl)))) (ja_c (jc_sh (je_var (i := 1) rfl (by first | exact Or.inl rfl | exact Or.inr (Or.inl rfl) | exact Or.inr (Or.inr rfl)))) ja_nil)))) je_int (fun _ _ => rfl))))))
theorem ok_words_along (T : Tx w K mg) : FnOk P w K mg base CX0 3 T.a_words_along T.d_words_along ["program", "place"] (spF K 2 f_words_along) := by
  have sc := sc_words_along
  refine fn_J T.F_words_along sc rfl rfl (by decide) fun cdv A outer s H E hr => ?_
  exact (jss_cons (js_set (i := 2) sc.nd rfl (by first | exact Or.inl rfl | exact Or.inr rfl) (jc_sh (je_cell (jc_call (ok_row_of T) rfl (hr.mono (by decide)) (by rfl) T.g_row_of T.F_row_of.kp T.b_row_of (ja_c (jc_sh (je_var (i := 0) rfl (by first | exact Or.inl rfl | exact Or.inr (Or.inl rfl) | exact Or.inr (Or.inr rfl)))) (ja_c (jc_sh (je_ix (je_var (i := 1) rfl (by first | exact Or.inl rfl | exact Or.inr (Or.inl rfl) | exact Or.inr (Or.inr rfl))) je_int (fun _ _ => rfl))) ja_nil))))))
    (jss_cons (js_set (i := 3) sc.nd rfl (by first | exact Or.inl rfl | exact Or.inr rfl) (jc_lo (jl_new (jo_lst (ja_c (jc_sh (je_tup (ja_c (jc_sh (je_var (i := 2) rfl (by first | exact Or.inl rfl | exact Or.inr (Or.inl rfl) | exact Or.inr (Or.inr rfl)))) (ja_c (jc_sh (je_ix (je_var (i := 1) rfl (by first | exact Or.inl rfl | exact Or.inr (Or.inl rfl) | exact Or.inr (Or.inr rfl))) je_int (fun _ _ => rfl))) ja_nil)))) ja_nil)))))
    (jss_cons (js_for PassesOwn.never rfl (ji_range3 (by rfl) T.z_range je_int (je_callB call_lenA cs_len (by rfl) T.z_len (by decide +kernel) (ja_c (jc_sh (je_var (i := 1) rfl (by first | exact Or.inl rfl | exact Or.inr (Or.inl rfl) | exact Or.inr (Or.inr rfl)))) ja_nil)) je_int) (jg_name (i := 4) sc.nd rfl (by first | exact Or.inl rfl | exact Or.inr rfl))
    (jss_cons (js_set (i := 2) sc.nd rfl (by first | exact Or.inl rfl | exact Or.inr rfl) (jc_sh (je_ix (je_cell (jc_call (ok_rows_in T) rfl (hr.mono (by decide)) (by rfl) T.g_rows_in T.F_rows_in.kp T.b_rows_in (ja_c (jc_sh (je_ix (je_var (i := 2) rfl (by first | exact Or.inl rfl | exact Or.inr (Or.inl rfl) | exact Or.inr (Or.inr rfl))) (je_ix (je_var (i := 1) rfl (by first | exact Or.inl rfl | exact Or.inr (Or.inl rfl) | exact Or.inr (Or.inr rfl))) (je_bin op_sub os_sub (je_var (i := 4) rfl (by first | exact Or.inl rfl | exact Or.inr (Or.inl rfl) | exact Or.inr (Or.inr rfl))) je_int) (fun _ _ => rfl)) (fun _ _ => rfl))) ja_nil))) (je_ix (je_var (i := 1) rfl (by first | exact Or.inl rfl | exact Or.inr (Or.inl rfl) | exact Or.inr (Or.inr rfl))) (je_var (i := 4) rfl (by first | exact Or.inl rfl | exact Or.inr (Or.inl rfl) | exact Or.inr (Or.inr rfl))) (fun _ _ => rfl)) (fun _ _ => rfl))))
    (jss_one (js_app (jl_var (i := 3) rfl (by first | exact Or.inl rfl | exact Or.inr (Or.inl rfl) | exact Or.inr (Or.inr rfl))) (jc_sh (je_tup (ja_c (jc_sh (je_var (i := 2) rfl (by first | exact Or.inl rfl | exact Or.inr (Or.inl rfl) | exact Or.inr (Or.inr rfl)))) (ja_c (jc_sh (je_ix (je_var (i := 1) rfl (by first | exact Or.inl rfl | exact Or.inr (Or.inl rfl) | exact Or.inr (Or.inr rfl))) (je_bin op_addA os_add (je_var (i := 4) rfl (by first | exact Or.inl rfl | exact Or.inr (Or.inl rfl) | exact Or.inr (Or.inr rfl))) je_int) (fun _ _ => rfl))) ja_nil)))) (PE0 := (pe_bm PySem.F.plainAttrs_list PySem.F.slot_list_append PySem.F.type_list_append mt_append (jl_var (i := 3) rfl (by first | exact Or.inl rfl | exact Or.inr (Or.inl rfl) | exact Or.inr (Or.inr rfl))) (pa_cons (jc_sh (je_tup (ja_c (jc_sh (je_var (i := 2) rfl (by first | exact Or.inl rfl | exact Or.inr (Or.inl rfl) | exact Or.inr (Or.inr rfl)))) (ja_c (jc_sh (je_ix (je_var (i := 1) rfl (by first | exact Or.inl rfl | exact Or.inr (Or.inl rfl) | exact Or.inr (Or.inr rfl))) (je_bin op_addA os_add (je_var (i := 4) rfl (by first | exact Or.inl rfl | exact Or.inr (Or.inl rfl) | exact Or.inr (Or.inr rfl))) je_int) (fun _ _ => rfl))) ja_nil)))) pa_nil)))))))
    (jss_one (js_ret (jc_sh (je_seal (jl_var (i := 3) rfl (by first | exact Or.inl rfl | exact Or.inr (Or.inl rfl) | exact Or.inr (Or.inr rfl))))))))))
theorem ok_word_at (T : Tx w K mg) : FnOk P w K mg base CX0 4 T.a_word_at T.d_word_at ["program", "place"] (spF K 2 f_word_at) := by
  have sc := sc_word_at
  refine fn_J T.F_word_at sc rfl rfl (by decide) fun cdv A outer s H E hr => ?_
  exact (jss_cons (js_asg (jc_sh (je_ix (je_cell (jc_call (ok_words_along T) rfl (hr.mono (by decide)) (by rfl) T.g_words_along T.F_words_along.kp T.b_words_along (ja_c (jc_sh (je_var (i := 0) rfl (by first | exact Or.inl rfl | exact Or.inr (Or.inl rfl) | exact Or.inr (Or.inr rfl)))) (ja_c (jc_sh (je_var (i := 1) rfl (by first | exact Or.inl rfl | exact Or.inr (Or.inl rfl) | exact Or.inr (Or.inr rfl)))) ja_nil)))) (je_neg je_int) (fun _ _ => rfl))) (jg_tup rfl (jgs_cons (jg_name (i := 2) sc.nd rfl (by first | exact Or.inl rfl | exact Or.inr rfl)) (jgs_cons (jg_name (i := 3) sc.nd rfl (by first | exact Or.inl rfl | exact Or.inr rfl)) jgs_nil))))
    (jss_cons (js_if (jt_cmp (op_eqA hr.units) os_eq (je_var (i := 3) rfl (by first | exact Or.inl rfl | exact Or.inr (Or.inl rfl) | exact Or.inr (Or.inr rfl))) (je_callB call_lenA cs_len (by rfl) T.z_len (by decide +kernel) (ja_c (jc_sh (je_var (i := 2) rfl (by first | exact Or.inl rfl | exact Or.inr (Or.inl rfl) | exact Or.inr (Or.inr rfl)))) ja_nil)) (nomark _))
    (jss_one (js_ret (jc_sh je_non)))
    jss_nil)
    (jss_one (js_ret (jc_sh (je_ix (je_var (i := 2) rfl (by first | exact Or.inl rfl | exact Or.inr (Or.inl rfl) | exact Or.inr (Or.inr rfl))) (je_var (i := 3) rfl (by first | exact Or.inl rfl | exact Or.inr (Or.inl rfl) | exact Or.inr (Or.inr rfl))) (fun _ _ => rfl)))))))
theorem ok_G5 (T : Tx w K mg) : ∀ k : Nat, FnOk P w K mg base CX0 (1 + k) T.a_places_from T.d_places_from ["row", "ahead"] (spF K 2 (f_G5 k 0))
  | 0 => fn_bad rfl
  | k + 1 => by
    have ih := ok_G5 T k
    exact (by
      have sc := sc_places_from
      refine fn_J T.F_places_from sc rfl rfl (by decide) fun cdv A outer s H E hr => ?_
      exact (jss_cons (js_set (i := 2) sc.nd rfl (by first | exact Or.inl rfl | exact Or.inr rfl) (jc_lo (jl_new (jo_lst ja_nil))))
    (jss_cons (js_for PassesOwn.never rfl (ji_enum (by rfl) T.z_enumerate (je_var (i := 0) rfl (by first | exact Or.inl rfl | exact Or.inr (Or.inl rfl) | exact Or.inr (Or.inr rfl)))) (jg_tup rfl (jgs_cons (jg_name (i := 3) sc.nd rfl (by first | exact Or.inl rfl | exact Or.inr rfl)) (jgs_cons (jg_name (i := 4) sc.nd rfl (by first | exact Or.inl rfl | exact Or.inr rfl)) jgs_nil)))
    (jss_cons (js_app (jl_var (i := 2) rfl (by first | exact Or.inl rfl | exact Or.inr (Or.inl rfl) | exact Or.inr (Or.inr rfl))) (jc_sh (je_bin op_addA os_add (je_var (i := 1) rfl (by first | exact Or.inl rfl | exact Or.inr (Or.inl rfl) | exact Or.inr (Or.inr rfl))) (je_tup (ja_c (jc_sh (je_var (i := 3) rfl (by first | exact Or.inl rfl | exact Or.inr (Or.inl rfl) | exact Or.inr (Or.inr rfl)))) ja_nil)))) (PE0 := (pe_bm PySem.F.plainAttrs_list PySem.F.slot_list_append PySem.F.type_list_append mt_append (jl_var (i := 2) rfl (by first | exact Or.inl rfl | exact Or.inr (Or.inl rfl) | exact Or.inr (Or.inr rfl))) (pa_cons (jc_sh (je_bin op_addA os_add (je_var (i := 1) rfl (by first | exact Or.inl rfl | exact Or.inr (Or.inl rfl) | exact Or.inr (Or.inr rfl))) (je_tup (ja_c (jc_sh (je_var (i := 3) rfl (by first | exact Or.inl rfl | exact Or.inr (Or.inl rfl) | exact Or.inr (Or.inr rfl)))) ja_nil)))) pa_nil))))
    (jss_one (js_for PassesOwn.never rfl (ji_enum (by rfl) T.z_enumerate (je_cell (jc_call (ok_rows_in T) rfl (hr.mono (Nat.le_trans (m := 1) (by decide) (Nat.le_add_right _ _))) (by rfl) T.g_rows_in T.F_rows_in.kp T.b_rows_in (ja_c (jc_sh (je_var (i := 4) rfl (by first | exact Or.inl rfl | exact Or.inr (Or.inl rfl) | exact Or.inr (Or.inr rfl)))) ja_nil)))) (jg_tup rfl (jgs_cons (jg_name (i := 5) sc.nd rfl (by first | exact Or.inl rfl | exact Or.inr rfl)) (jgs_cons (jg_name (i := 6) sc.nd rfl (by first | exact Or.inl rfl | exact Or.inr rfl)) jgs_nil)))
    (jss_one (js_ext (jl_var (i := 2) rfl (by first | exact Or.inl rfl | exact Or.inr (Or.inl rfl) | exact Or.inr (Or.inr rfl))) (jc_sh (je_cell (jc_call ih rfl hr (by rfl) T.g_places_from T.F_places_from.kp T.b_places_from (ja_c (jc_sh (je_var (i := 6) rfl (by first | exact Or.inl rfl | exact Or.inr (Or.inl rfl) | exact Or.inr (Or.inr rfl)))) (ja_c (jc_sh (je_bin op_addA os_add (je_var (i := 1) rfl (by first | exact Or.inl rfl | exact Or.inr (Or.inl rfl) | exact Or.inr (Or.inr rfl))) (je_tup (ja_c (jc_sh (je_var (i := 3) rfl (by first | exact Or.inl rfl | exact Or.inr (Or.inl rfl) | exact Or.inr (Or.inr rfl)))) (ja_c (jc_sh (je_var (i := 5) rfl (by first | exact Or.inl rfl | exact Or.inr (Or.inl rfl) | exact Or.inr (Or.inr rfl)))) ja_nil))))) ja_nil))))) (PE0 := (pe_bm PySem.F.plainAttrs_list PySem.F.slot_list_extend PySem.F.type_list_extend mt_extA (jl_var (i := 2) rfl (by first | exact Or.inl rfl | exact Or.inr (Or.inl rfl) | exact Or.inr (Or.inr rfl))) (pa_cons (jc_sh (je_cell (jc_call ih rfl hr (by rfl) T.g_places_from T.F_places_from.kp T.b_places_from (ja_c (jc_sh (je_var (i := 6) rfl (by first | exact Or.inl rfl | exact Or.inr (Or.inl rfl) | exact Or.inr (Or.inr rfl)))) (ja_c (jc_sh (je_bin op_addA os_add (je_var (i := 1) rfl (by first | exact Or.inl rfl | exact Or.inr (Or.inl rfl) | exact Or.inr (Or.inr rfl))) (je_tup (ja_c (jc_sh (je_var (i := 3) rfl (by first | exact Or.inl rfl | exact Or.inr (Or.inl rfl) | exact Or.inr (Or.inr rfl)))) (ja_c (jc_sh (je_var (i := 5) rfl (by first | exact Or.inl rfl | exact Or.inr (Or.inl rfl) | exact Or.inr (Or.inr rfl)))) ja_nil))))) ja_nil))))) pa_nil)))))))))
    (jss_one (js_ret (jc_sh (je_seal (jl_var (i := 2) rfl (by first | exact Or.inl rfl | exact Or.inr (Or.inl rfl) | exact Or.inr (Or.inr rfl))))))))))
theorem ok_places_of (T : Tx w K mg) : FnOk P w K mg base CX0 16 T.a_places_of T.d_places_of ["program", "name"] (spF K 2 f_places_of) := by
  have sc := sc_places_of
  refine fn_J T.F_places_of sc rfl rfl (by decide) fun cdv A outer s H E hr => ?_
  exact (jss_cons (js_set (i := 2) sc.nd rfl (by first | exact Or.inl rfl | exact Or.inr rfl) (jc_sh (je_cell (jc_call (ok_row_of T) rfl (hr.mono (by decide)) (by rfl) T.g_row_of T.F_row_of.kp T.b_row_of (ja_c (jc_sh (je_var (i := 0) rfl (by first | exact Or.inl rfl | exact Or.inr (Or.inl rfl) | exact Or.inr (Or.inr rfl)))) (ja_c (jc_sh (je_var (i := 1) rfl (by first | exact Or.inl rfl | exact Or.inr (Or.inl rfl) | exact Or.inr (Or.inr rfl)))) ja_nil))))))
    (jss_one (js_ret (jc_sh (je_callTy call_tuple_of cs_tuple (by rfl) T.z_tuple (by decide +kernel) (ja_c (jc_sh (je_bin op_addA os_add (je_cell (jc_call ((ok_G5 T 14)) rfl (hr.mono (by decide)) (by rfl) T.g_places_from T.F_places_from.kp T.b_places_from (ja_c (jc_sh (je_var (i := 2) rfl (by first | exact Or.inl rfl | exact Or.inr (Or.inl rfl) | exact Or.inr (Or.inr rfl)))) (ja_c (jc_sh (je_tup (ja_c (jc_sh (je_var (i := 1) rfl (by first | exact Or.inl rfl | exact Or.inr (Or.inl rfl) | exact Or.inr (Or.inr rfl)))) ja_nil))) ja_nil)))) (je_lst (ja_c (jc_sh (je_tup (ja_c (jc_sh (je_var (i := 1) rfl (by first | exact Or.inl rfl | exact Or.inr (Or.inl rfl) | exact Or.inr (Or.inr rfl)))) (ja_c (jc_sh (je_callB call_lenA cs_len (by rfl) T.z_len (by decide +kernel) (ja_c (jc_sh (je_var (i := 2) rfl (by first | exact Or.inl rfl | exact Or.inr (Or.inl rfl) | exact Or.inr (Or.inr rfl)))) ja_nil))) ja_nil)))) ja_nil)))) ja_nil))))))
theorem ok_next_word (T : Tx w K mg) : FnOk P w K mg base CX0 17 T.a_next_word T.d_next_word ["program", "place"] (spF K 2 f_next_word) := by
  have sc := sc_next_word
  refine fn_J T.F_next_word sc rfl rfl (by decide) fun cdv A outer s H E hr => ?_
  exact (jss_cons (js_set (i := 2) sc.nd rfl (by first | exact Or.inl rfl | exact Or.inr rfl) (jc_sh (je_bin op_addA os_add (je_slice (je_var (i := 1) rfl (by first | exact Or.inl rfl | exact Or.inr (Or.inl rfl) | exact Or.inr (Or.inr rfl))) jp_none (jp_some (je_neg je_int))) (je_tup (ja_c (jc_sh (je_bin op_addA os_add (je_ix (je_var (i := 1) rfl (by first | exact Or.inl rfl | exact Or.inr (Or.inl rfl) | exact Or.inr (Or.inr rfl))) (je_neg je_int) (fun _ _ => rfl)) je_int)) ja_nil)))))
    (jss_cons (js_if (jt_cmp (op_inDA (room65 hr)) os_inD (je_var (i := 2) rfl (by first | exact Or.inl rfl | exact Or.inr (Or.inl rfl) | exact Or.inr (Or.inr rfl))) (je_cell (jc_call (ok_places_of T) rfl (hr.mono (by decide)) (by rfl) T.g_places_of T.F_places_of.kp T.b_places_of (ja_c (jc_sh (je_var (i := 0) rfl (by first | exact Or.inl rfl | exact Or.inr (Or.inl rfl) | exact Or.inr (Or.inr rfl)))) (ja_c (jc_sh (je_ix (je_var (i := 1) rfl (by first | exact Or.inl rfl | exact Or.inr (Or.inl rfl) | exact Or.inr (Or.inr rfl))) je_int (fun _ _ => rfl))) ja_nil)))) (by rfl))
    (jss_one (js_ret (jc_sh (je_cell (jc_call (ok_word_at T) rfl (hr.mono (by decide)) (by rfl) T.g_word_at T.F_word_at.kp T.b_word_at (ja_c (jc_sh (je_var (i := 0) rfl (by first | exact Or.inl rfl | exact Or.inr (Or.inl rfl) | exact Or.inr (Or.inr rfl)))) (ja_c (jc_sh (je_var (i := 2) rfl (by first | exact Or.inl rfl | exact Or.inr (Or.inl rfl) | exact Or.inr (Or.inr rfl)))) ja_nil)))))))
    jss_nil)
    (jss_one (js_ret (jc_sh je_non)))))
theorem ok_lets (T : Tx w K mg) : FnOk P w K mg base CX0 18 T.a_lets T.d_lets ["program", "place", "rule", "known"] (spF K 4 f_lets) := by
  have sc := sc_lets
  refine fn_J T.F_lets sc rfl rfl (by decide) fun cdv A outer s H E hr => ?_
  exact (jss_cons (js_set (i := 4) sc.nd rfl (by first | exact Or.inl rfl | exact Or.inr rfl) (jc_sh (je_cell (jc_call (ok_word_at T) rfl (hr.mono (by decide)) (by rfl) T.g_word_at T.F_word_at.kp T.b_word_at (ja_c (jc_sh (je_var (i := 0) rfl (by first | exact Or.inl rfl | exact Or.inr (Or.inl rfl) | exact Or.inr (Or.inr rfl)))) (ja_c (jc_sh (je_var (i := 1) rfl (by first | exact Or.inl rfl | exact Or.inr (Or.inl rfl) | exact Or.inr (Or.inr rfl)))) ja_nil))))))
    (jss_cons (js_if (jt_cmp op_isA os_is (je_var (i := 4) rfl (by first | exact Or.inl rfl | exact Or.inr (Or.inl rfl) | exact Or.inr (Or.inr rfl))) je_non (nomark _))
    (jss_one (js_ret (jc_sh je_bl)))
    jss_nil)
    (jss_cons (js_if (jt_cmp (op_eqA hr.units) os_eq (je_var (i := 2) rfl (by first | exact Or.inl rfl | exact Or.inr (Or.inl rfl) | exact Or.inr (Or.inr rfl))) je_str (nomark _))
    (jss_one (js_ret (jc_sh (je_and (je_cmp (op_eqA hr.units) os_eq (je_ix (je_var (i := 4) rfl (by first | exact Or.inl rfl | exact Or.inr (Or.inl rfl) | exact Or.inr (Or.inr rfl))) je_int (fun _ _ => rfl)) je_str (nomark _)) (je_one (je_cmp (op_eqA hr.units) os_eq (je_ix (je_var (i := 4) rfl (by first | exact Or.inl rfl | exact Or.inr (Or.inl rfl) | exact Or.inr (Or.inr rfl))) je_int (fun _ _ => rfl)) (je_ix (je_var (i := 4) rfl (by first | exact Or.inl rfl | exact Or.inr (Or.inl rfl) | exact Or.inr (Or.inr rfl))) je_int (fun _ _ => rfl)) (nomark _)))))))
    jss_nil)
    (jss_cons (js_if (jt_cmp (op_eqA hr.units) os_eq (je_var (i := 2) rfl (by first | exact Or.inl rfl | exact Or.inr (Or.inl rfl) | exact Or.inr (Or.inr rfl))) je_str (nomark _))
    (jss_one (js_ret (jc_sh (je_and (je_cmp op_inA os_in (je_ix (je_var (i := 4) rfl (by first | exact Or.inl rfl | exact Or.inr (Or.inl rfl) | exact Or.inr (Or.inr rfl))) je_int (fun _ _ => rfl)) (je_tup (ja_c (jc_sh je_str) (ja_c (jc_sh je_str) ja_nil))) (by rfl)) (je_one (je_cmp (op_eqA hr.units) os_eq (je_cell (jc_call (ok_next_word T) rfl (hr.mono (by decide)) (by rfl) T.g_next_word T.F_next_word.kp T.b_next_word (ja_c (jc_sh (je_var (i := 0) rfl (by first | exact Or.inl rfl | exact Or.inr (Or.inl rfl) | exact Or.inr (Or.inr rfl)))) (ja_c (jc_sh (je_var (i := 1) rfl (by first | exact Or.inl rfl | exact Or.inr (Or.inl rfl) | exact Or.inr (Or.inr rfl)))) ja_nil)))) (je_var (i := 4) rfl (by first | exact Or.inl rfl | exact Or.inr (Or.inl rfl) | exact Or.inr (Or.inr rfl))) (nomark _)))))))
    jss_nil)
    (jss_cons (js_if (jt_cmp op_notInA os_notIn (je_ix (je_var (i := 4) rfl (by first | exact Or.inl rfl | exact Or.inr (Or.inl rfl) | exact Or.inr (Or.inr rfl))) je_int (fun _ _ => rfl)) (je_glob (by rfl) T.g_MAKERS T.v_MAKERS T.r_MAKERS) (by rfl))
    (jss_one (js_ret (jc_sh je_bl)))
    jss_nil)
    (jss_cons js_bad
    (jss_one js_bad)))))))
theorem ok_G9 (T : Tx w K mg) : ∀ k : Nat, FnOk P w K mg base CX0 (0 + k) T.a_row_without T.d_row_without ["row", "numbers"] (spF K 2 (f_G9 k 0))
  | 0 => fn_bad rfl
  | k + 1 => by
    have ih := ok_G9 T k
    exact (by
      have sc := sc_row_without
      refine fn_J T.F_row_without sc rfl rfl (by decide) fun cdv A outer s H E hr => ?_
      exact (jss_cons (js_set (i := 2) sc.nd rfl (by first | exact Or.inl rfl | exact Or.inr rfl) (jc_sh (je_ix (je_var (i := 1) rfl (by first | exact Or.inl rfl | exact Or.inr (Or.inl rfl) | exact Or.inr (Or.inr rfl))) je_int (fun _ _ => rfl))))
    (jss_cons (js_if (jt_cmp (op_eqA hr.units) os_eq (je_callB call_lenA cs_len (by rfl) T.z_len (by decide +kernel) (ja_c (jc_sh (je_var (i := 1) rfl (by first | exact Or.inl rfl | exact Or.inr (Or.inl rfl) | exact Or.inr (Or.inr rfl)))) ja_nil)) je_int (nomark _))
    (jss_one (js_ret (jc_sh (je_bin op_addA os_add (je_slice (je_var (i := 0) rfl (by first | exact Or.inl rfl | exact Or.inr (Or.inl rfl) | exact Or.inr (Or.inr rfl))) jp_none (jp_some (je_var (i := 2) rfl (by first | exact Or.inl rfl | exact Or.inr (Or.inl rfl) | exact Or.inr (Or.inr rfl))))) (je_slice (je_var (i := 0) rfl (by first | exact Or.inl rfl | exact Or.inr (Or.inl rfl) | exact Or.inr (Or.inr rfl))) (jp_some (je_bin op_addA os_add (je_var (i := 2) rfl (by first | exact Or.inl rfl | exact Or.inr (Or.inl rfl) | exact Or.inr (Or.inr rfl))) je_int)) jp_none)))))
    jss_nil)
    (jss_cons (js_set (i := 3) sc.nd rfl (by first | exact Or.inl rfl | exact Or.inr rfl) (jc_sh (je_ix (je_var (i := 0) rfl (by first | exact Or.inl rfl | exact Or.inr (Or.inl rfl) | exact Or.inr (Or.inr rfl))) (je_var (i := 2) rfl (by first | exact Or.inl rfl | exact Or.inr (Or.inl rfl) | exact Or.inr (Or.inr rfl))) (fun _ _ => rfl))))
    (jss_cons (js_if (jt_cmp (op_eqA hr.units) os_eq (je_ix (je_var (i := 3) rfl (by first | exact Or.inl rfl | exact Or.inr (Or.inl rfl) | exact Or.inr (Or.inr rfl))) je_int (fun _ _ => rfl)) je_str (nomark _))
    (jss_one (js_set (i := 4) sc.nd rfl (by first | exact Or.inl rfl | exact Or.inr rfl) (jc_sh (je_tup (ja_c (jc_sh je_str) (ja_c (jc_sh (je_cell (jc_call ih rfl hr (by rfl) T.g_row_without T.F_row_without.kp T.b_row_without (ja_c (jc_sh (je_ix (je_var (i := 3) rfl (by first | exact Or.inl rfl | exact Or.inr (Or.inl rfl) | exact Or.inr (Or.inr rfl))) je_int (fun _ _ => rfl))) (ja_c (jc_sh (je_slice (je_var (i := 1) rfl (by first | exact Or.inl rfl | exact Or.inr (Or.inl rfl) | exact Or.inr (Or.inr rfl))) (jp_some je_int) jp_none)) ja_nil))))) ja_nil))))))
    (jss_cons (js_set (i := 5) sc.nd rfl (by first | exact Or.inl rfl | exact Or.inr rfl) (jc_lo (jl_new (jo_listOf (by rfl) T.z_list (by decide +kernel) (jc_sh (je_ix (je_var (i := 3) rfl (by first | exact Or.inl rfl | exact Or.inr (Or.inl rfl) | exact Or.inr (Or.inr rfl))) je_int (fun _ _ => rfl)))))))
    (jss_cons (js_setIx (jl_var (i := 5) rfl (by first | exact Or.inl rfl | exact Or.inr (Or.inl rfl) | exact Or.inr (Or.inr rfl))) (je_ix (je_var (i := 1) rfl (by first | exact Or.inl rfl | exact Or.inr (Or.inl rfl) | exact Or.inr (Or.inr rfl))) je_int (fun _ _ => rfl)) (jc_sh (je_cell (jc_call ih rfl hr (by rfl) T.g_row_without T.F_row_without.kp T.b_row_without (ja_c (jc_sh (je_cell (jc_ix (jc_lo (jl_var (i := 5) rfl (by first | exact Or.inl rfl | exact Or.inr (Or.inl rfl) | exact Or.inr (Or.inr rfl)))) (je_ix (je_var (i := 1) rfl (by first | exact Or.inl rfl | exact Or.inr (Or.inl rfl) | exact Or.inr (Or.inr rfl))) je_int (fun _ _ => rfl)) (fun _ _ => rfl)))) (ja_c (jc_sh (je_slice (je_var (i := 1) rfl (by first | exact Or.inl rfl | exact Or.inr (Or.inl rfl) | exact Or.inr (Or.inr rfl))) (jp_some je_int) jp_none)) ja_nil))))))
    (jss_one (js_set (i := 4) sc.nd rfl (by first | exact Or.inl rfl | exact Or.inr rfl) (jc_sh (je_tup (ja_c (jc_sh je_str) (ja_c (jc_sh (je_tupOf (by rfl) T.z_tuple (by decide +kernel) (jc_lo (jl_var (i := 5) rfl (by first | exact Or.inl rfl | exact Or.inr (Or.inl rfl) | exact Or.inr (Or.inr rfl)))))) ja_nil)))))))))
    (jss_one (js_ret (jc_sh (je_bin op_addA os_add (je_bin op_addA os_add (je_slice (je_var (i := 0) rfl (by first | exact Or.inl rfl | exact Or.inr (Or.inl rfl) | exact Or.inr (Or.inr rfl))) jp_none (jp_some (je_var (i := 2) rfl (by first | exact Or.inl rfl | exact Or.inr (Or.inl rfl) | exact Or.inr (Or.inr rfl))))) (je_tup (ja_c (jc_sh (je_var (i := 4) rfl (by first | exact Or.inl rfl | exact Or.inr (Or.inl rfl) | exact Or.inr (Or.inr rfl)))) ja_nil))) (je_slice (je_var (i := 0) rfl (by first | exact Or.inl rfl | exact Or.inr (Or.inl rfl) | exact Or.inr (Or.inr rfl))) (jp_some (je_bin op_addA os_add (je_var (i := 2) rfl (by first | exact Or.inl rfl | exact Or.inr (Or.inl rfl) | exact Or.inr (Or.inr rfl))) je_int)) jp_none))))))))))
theorem ok_without (T : Tx w K mg) : FnOk P w K mg base CX0 15 T.a_without T.d_without ["program", "place"] (spF K 2 f_without) := by
  have sc := sc_without
  refine fn_J T.F_without sc rfl rfl (by decide) fun cdv A outer s H E hr => ?_
  exact (jss_cons (js_asg (jc_sh (je_var (i := 0) rfl (by first | exact Or.inl rfl | exact Or.inr (Or.inl rfl) | exact Or.inr (Or.inr rfl)))) (jg_tup rfl (jgs_cons (jg_name (i := 4) sc.nd rfl (by first | exact Or.inl rfl | exact Or.inr rfl)) (jgs_cons (jg_name (i := 5) sc.nd rfl (by first | exact Or.inl rfl | exact Or.inr rfl)) jgs_nil))))
    (jss_cons (js_if (jt_cmp (op_eqA hr.units) os_eq (je_ix (je_var (i := 1) rfl (by first | exact Or.inl rfl | exact Or.inr (Or.inl rfl) | exact Or.inr (Or.inr rfl))) je_int (fun _ _ => rfl)) je_str (nomark _))
    (jss_one (js_ret (jc_sh (je_tup (ja_c (jc_sh (je_var (i := 4) rfl (by first | exact Or.inl rfl | exact Or.inr (Or.inl rfl) | exact Or.inr (Or.inr rfl)))) (ja_c (jc_sh (je_cell (jc_call ((ok_G9 T 14)) rfl (hr.mono (by decide)) (by rfl) T.g_row_without T.F_row_without.kp T.b_row_without (ja_c (jc_sh (je_var (i := 5) rfl (by first | exact Or.inl rfl | exact Or.inr (Or.inl rfl) | exact Or.inr (Or.inr rfl)))) (ja_c (jc_sh (je_slice (je_var (i := 1) rfl (by first | exact Or.inl rfl | exact Or.inr (Or.inl rfl) | exact Or.inr (Or.inr rfl))) (jp_some je_int) jp_none)) ja_nil))))) ja_nil))))))
    jss_nil)
    (jss_cons (js_set (i := 2) sc.nd rfl (by first | exact Or.inl rfl | exact Or.inr rfl) (jc_lo (jl_new (jo_lst ja_nil))))
    (jss_cons (js_for PassesOwn.never rfl (ji_any (je_var (i := 4) rfl (by first | exact Or.inl rfl | exact Or.inr (Or.inl rfl) | exact Or.inr (Or.inr rfl)))) (jg_name (i := 3) sc.nd rfl (by first | exact Or.inl rfl | exact Or.inr rfl))
    (jss_cons (js_if (jt_cmp (op_eqA hr.units) os_eq (je_ix (je_var (i := 3) rfl (by first | exact Or.inl rfl | exact Or.inr (Or.inl rfl) | exact Or.inr (Or.inr rfl))) je_int (fun _ _ => rfl)) (je_ix (je_var (i := 1) rfl (by first | exact Or.inl rfl | exact Or.inr (Or.inl rfl) | exact Or.inr (Or.inr rfl))) je_int (fun _ _ => rfl)) (nomark _))
    (jss_one (js_set (i := 3) sc.nd rfl (by first | exact Or.inl rfl | exact Or.inr rfl) (jc_sh (je_bin op_addA os_add (je_slice (je_var (i := 3) rfl (by first | exact Or.inl rfl | exact Or.inr (Or.inl rfl) | exact Or.inr (Or.inr rfl))) jp_none (jp_some je_int)) (je_tup (ja_c (jc_sh (je_cell (jc_call ((ok_G9 T 14)) rfl (hr.mono (by decide)) (by rfl) T.g_row_without T.F_row_without.kp T.b_row_without (ja_c (jc_sh (je_ix (je_var (i := 3) rfl (by first | exact Or.inl rfl | exact Or.inr (Or.inl rfl) | exact Or.inr (Or.inr rfl))) je_int (fun _ _ => rfl))) (ja_c (jc_sh (je_slice (je_var (i := 1) rfl (by first | exact Or.inl rfl | exact Or.inr (Or.inl rfl) | exact Or.inr (Or.inr rfl))) (jp_some je_int) jp_none)) ja_nil))))) ja_nil))))))
    jss_nil)
    (jss_one (js_app (jl_var (i := 2) rfl (by first | exact Or.inl rfl | exact Or.inr (Or.inl rfl) | exact Or.inr (Or.inr rfl))) (jc_sh (je_var (i := 3) rfl (by first | exact Or.inl rfl | exact Or.inr (Or.inl rfl) | exact Or.inr (Or.inr rfl)))) (PE0 := (pe_bm PySem.F.plainAttrs_list PySem.F.slot_list_append PySem.F.type_list_append mt_append (jl_var (i := 2) rfl (by first | exact Or.inl rfl | exact Or.inr (Or.inl rfl) | exact Or.inr (Or.inr rfl))) (pa_cons (jc_sh (je_var (i := 3) rfl (by first | exact Or.inl rfl | exact Or.inr (Or.inl rfl) | exact Or.inr (Or.inr rfl)))) pa_nil)))))))
    (jss_one (js_ret (jc_sh (je_tup (ja_c (jc_sh (je_tupOf (by rfl) T.z_tuple (by decide +kernel) (jc_lo (jl_var (i := 2) rfl (by first | exact Or.inl rfl | exact Or.inr (Or.inl rfl) | exact Or.inr (Or.inr rfl)))))) (ja_c (jc_sh (je_var (i := 5) rfl (by first | exact Or.inl rfl | exact Or.inr (Or.inl rfl) | exact Or.inr (Or.inr rfl)))) ja_nil))))))))))
theorem ok_is_place (T : Tx w K mg) : FnOk P w K mg base CX0 17 T.a_is_place T.d_is_place ["program", "thing"] (spF K 2 f_is_place) := by
  have sc := sc_is_place
  refine fn_J T.F_is_place sc rfl rfl (by decide) fun cdv A outer s H E hr => ?_
  exact (jss_cons (js_if (PW.pt (jw_or (jt_not (jt_val (je_isi (T := "tuple") (T' := "tuple") (je_var (i := 1) rfl (by first | exact Or.inl rfl | exact Or.inr (Or.inl rfl) | exact Or.inr (Or.inr rfl))) (by rfl) T.z_isinstance (by rfl) T.z_tuple (by decide +kernel)))) (jw_or (jt_cmp op_ltA os_ord (je_callB call_lenA cs_len (by rfl) T.z_len (by decide +kernel) (ja_c (jc_sh (je_var (i := 1) rfl (by first | exact Or.inl rfl | exact Or.inr (Or.inl rfl) | exact Or.inr (Or.inr rfl)))) ja_nil)) je_int (nomark _)) (jw_or1 (jt_not (jt_val (je_isi (T := "str") (T' := "str") (je_ix (je_var (i := 1) rfl (by first | exact Or.inl rfl | exact Or.inr (Or.inl rfl) | exact Or.inr (Or.inr rfl))) je_int (fun _ _ => rfl)) (by rfl) T.z_isinstance (by rfl) T.z_str (by decide +kernel))))))))
    (jss_one (js_ret (jc_sh je_bl)))
    jss_nil)
    (jss_cons (js_for PassesOwn.never rfl (ji_any (je_slice (je_var (i := 1) rfl (by first | exact Or.inl rfl | exact Or.inr (Or.inl rfl) | exact Or.inr (Or.inr rfl))) (jp_some je_int) jp_none)) (jg_name (i := 2) sc.nd rfl (by first | exact Or.inl rfl | exact Or.inr rfl))
    (jss_one (js_if (PW.pt (jw_or (jt_not (jt_val (je_isi (T := "int") (T' := "int") (je_var (i := 2) rfl (by first | exact Or.inl rfl | exact Or.inr (Or.inl rfl) | exact Or.inr (Or.inr rfl))) (by rfl) T.z_isinstance (by rfl) T.z_int (by decide +kernel)))) (jw_or1 (jt_val (je_isi (T := "bool") (T' := "bool") (je_var (i := 2) rfl (by first | exact Or.inl rfl | exact Or.inr (Or.inl rfl) | exact Or.inr (Or.inr rfl))) (by rfl) T.z_isinstance (by rfl) T.z_bool (by decide +kernel))))))
    (jss_one (js_ret (jc_sh je_bl)))
    jss_nil)))
    (jss_cons (js_if (jt_cmp op_notInA os_notIn (je_ix (je_var (i := 1) rfl (by first | exact Or.inl rfl | exact Or.inr (Or.inl rfl) | exact Or.inr (Or.inr rfl))) je_int (fun _ _ => rfl)) (je_bin op_addA os_add (je_lst (ja_c (jc_sh je_str) ja_nil)) (je_fr (jo_comp (own := [("one", 3)]) (by decide) rfl sc.nd (ji_any (je_ix (je_var (i := 0) rfl (by first | exact Or.inl rfl | exact Or.inr (Or.inl rfl) | exact Or.inr (Or.inr rfl))) je_int (fun _ _ => rfl))) (blkOk_by (N := N_is_place) (sc := defScope s_is_place) (by decide +kernel)) (fun _ _ _ _ _ => (jg_name (i := 3) sc.nd rfl (by first | exact Or.inl rfl | exact Or.inr rfl))) (fun _ _ _ _ _ => jts_nil) (fun _ _ _ _ _ => (je_ix (je_var (i := 3) rfl (by first | exact Or.inl rfl | exact Or.inr (Or.inl rfl) | exact Or.inr (Or.inr rfl))) je_int (fun _ _ => rfl)))))) (by rfl))
    (jss_one (js_ret (jc_sh je_bl)))
    jss_nil)
    (jss_one (js_ret (jc_sh (je_cmp (op_inDA (room65 hr)) os_inD (je_var (i := 1) rfl (by first | exact Or.inl rfl | exact Or.inr (Or.inl rfl) | exact Or.inr (Or.inr rfl))) (je_cell (jc_call (ok_places_of T) rfl (hr.mono (by decide)) (by rfl) T.g_places_of T.F_places_of.kp T.b_places_of (ja_c (jc_sh (je_var (i := 0) rfl (by first | exact Or.inl rfl | exact Or.inr (Or.inl rfl) | exact Or.inr (Or.inr rfl)))) (ja_c (jc_sh (je_ix (je_var (i := 1) rfl (by first | exact Or.inl rfl | exact Or.inr (Or.inl rfl) | exact Or.inr (Or.inr rfl))) je_int (fun _ _ => rfl))) ja_nil)))) (by rfl))))))))
theorem ok_turned (T : Tx w K mg) : FnOk P w K mg base (L2.CX P w) 19 T.a_turned T.d_turned ["program", "turn"] (spX K 2 f_turned) := by
  have sc := sc_turned
  refine fnX_J T.F_turned sc rfl rfl (by decide) fun cdv A outer s H E hr tk pa => ?_
  exact (jss_cons (js_if (PW.pt (jw_or (jt_not (jt_val (je_isi (T := "tuple") (T' := "tuple") (je_var (i := 1) rfl (by first | exact Or.inl rfl | exact Or.inr (Or.inl rfl) | exact Or.inr (Or.inr rfl))) (by rfl) T.z_isinstance (by rfl) T.z_tuple (by decide +kernel)))) (jw_or (jt_cmp (op_neA hr.units) os_ne (je_callB call_lenA cs_len (by rfl) T.z_len (by decide +kernel) (ja_c (jc_sh (je_var (i := 1) rfl (by first | exact Or.inl rfl | exact Or.inr (Or.inl rfl) | exact Or.inr (Or.inr rfl)))) ja_nil)) je_int (nomark _)) (jw_or1 (jt_not (jt_val (je_isi (T := "str") (T' := "str") (je_ix (je_var (i := 1) rfl (by first | exact Or.inl rfl | exact Or.inr (Or.inl rfl) | exact Or.inr (Or.inr rfl))) je_int (fun _ _ => rfl)) (by rfl) T.z_isinstance (by rfl) T.z_str (by decide +kernel))))))))
    (jss_one (js_raiseG PySem.F.excBase_ValueError T.ex_NoTurn T.cl_NoTurn T.kp_NoTurn (raises_own T.sb_NoTurn T.ty_NoTurn) rfl tk T.g_NoTurn (by rfl)))
    jss_nil)
    (jss_cons (js_asg (jc_sh (je_var (i := 1) rfl (by first | exact Or.inl rfl | exact Or.inr (Or.inl rfl) | exact Or.inr (Or.inr rfl)))) (jg_tup rfl (jgs_cons (jg_name (i := 3) sc.nd rfl (by first | exact Or.inl rfl | exact Or.inr rfl)) (jgs_cons (jg_name (i := 4) sc.nd rfl (by first | exact Or.inl rfl | exact Or.inr rfl)) jgs_nil))))
    (jss_cons (js_if (PW.pt (jw_or (jt_cmp op_notInA os_notIn (je_var (i := 4) rfl (by first | exact Or.inl rfl | exact Or.inr (Or.inl rfl) | exact Or.inr (Or.inr rfl))) (je_glob (by rfl) T.g_RULES T.v_RULES T.r_RULES) (by rfl)) (jw_or1 (jt_not (jt_val (je_cell (jc_call (ok_is_place T) rfl (hr.mono (by decide)) (by rfl) T.g_is_place T.F_is_place.kp T.b_is_place (ja_c (jc_sh (je_var (i := 0) rfl (by first | exact Or.inl rfl | exact Or.inr (Or.inl rfl) | exact Or.inr (Or.inr rfl)))) (ja_c (jc_sh (je_var (i := 3) rfl (by first | exact Or.inl rfl | exact Or.inr (Or.inl rfl) | exact Or.inr (Or.inr rfl)))) ja_nil)))))))))
    (jss_one (js_raiseG PySem.F.excBase_ValueError T.ex_NoTurn T.cl_NoTurn T.kp_NoTurn (raises_own T.sb_NoTurn T.ty_NoTurn) rfl tk T.g_NoTurn (by rfl)))
    jss_nil)
    (jss_cons (js_set (i := 2) sc.nd rfl (by first | exact Or.inl rfl | exact Or.inr rfl) (jc_sh je_non))
    (jss_cons (js_if (jt_cmp (op_eqA hr.units) os_eq (je_var (i := 4) rfl (by first | exact Or.inl rfl | exact Or.inr (Or.inl rfl) | exact Or.inr (Or.inr rfl))) je_str (nomark _))
    (jss_one js_bad)
    jss_nil)
    (jss_cons (js_if (jt_not (jt_val (je_cell (jc_call (ok_lets T) rfl (hr.mono (by decide)) (by rfl) T.g_lets T.F_lets.kp T.b_lets (ja_c (jc_sh (je_var (i := 0) rfl (by first | exact Or.inl rfl | exact Or.inr (Or.inl rfl) | exact Or.inr (Or.inr rfl)))) (ja_c (jc_sh (je_var (i := 3) rfl (by first | exact Or.inl rfl | exact Or.inr (Or.inl rfl) | exact Or.inr (Or.inr rfl)))) (ja_c (jc_sh (je_var (i := 4) rfl (by first | exact Or.inl rfl | exact Or.inr (Or.inl rfl) | exact Or.inr (Or.inr rfl)))) (ja_c (jc_sh (je_var (i := 2) rfl (by first | exact Or.inl rfl | exact Or.inr (Or.inl rfl) | exact Or.inr (Or.inr rfl)))) ja_nil))))))))
    (jss_one (js_raiseG PySem.F.excBase_ValueError T.ex_NoTurn T.cl_NoTurn T.kp_NoTurn (raises_own T.sb_NoTurn T.ty_NoTurn) rfl tk T.g_NoTurn (by rfl)))
    jss_nil)
    (jss_one (js_ret (jc_sh (je_cell (jc_call (ok_without T) rfl (hr.mono (by decide)) (by rfl) T.g_without T.F_without.kp T.b_without (ja_c (jc_sh (je_var (i := 0) rfl (by first | exact Or.inl rfl | exact Or.inr (Or.inl rfl) | exact Or.inr (Or.inr rfl)))) (ja_c (jc_sh (je_var (i := 3) rfl (by first | exact Or.inl rfl | exact Or.inr (Or.inl rfl) | exact Or.inr (Or.inr rfl)))) ja_nil)))))))))))))
theorem ok__law_deck (T : Tx w K mg) : FnOk P w K mg base CX0 1 T.a__law_deck T.d__law_deck ["_law_script"] (spF K 1 f__law_deck) := by
  have sc := sc__law_deck
  refine fn_J T.F__law_deck sc rfl rfl (by decide) fun cdv A outer s H E hr => ?_
  exact (jss_cons (js_set (i := 1) sc.nd rfl (by first | exact Or.inl rfl | exact Or.inr rfl) (jc_sh (je_callTy call_list_of cs_list (by rfl) T.z_list (by decide +kernel) (ja_c (jc_sh (je_slice (je_var (i := 0) rfl (by first | exact Or.inl rfl | exact Or.inr (Or.inl rfl) | exact Or.inr (Or.inr rfl))) jp_none (jp_some je_int))) ja_nil))))
    (jss_one (js_ret (jc_lo (jl_new (jo_cat (jc_sh (je_lst (ja_c (jc_sh je_int) (ja_c (jc_sh (je_bin op_addA os_add je_int (je_bin op_mod os_mod (je_callB (cr_sum rfl) cs_sum (by rfl) T.z_sum (by decide +kernel) (ja_c (jc_sh (je_fr (jo_comp (own := [("_law_k", 2), ("_law_cell", 3)]) (by decide) rfl sc.nd (ji_enum (by rfl) T.z_enumerate (je_var (i := 1) rfl (by first | exact Or.inl rfl | exact Or.inr (Or.inl rfl) | exact Or.inr (Or.inr rfl)))) (blkOk_by (N := N__law_deck) (sc := defScope s__law_deck) (by decide +kernel)) (fun _ _ _ _ _ => (jg_tup rfl (jgs_cons (jg_name (i := 2) sc.nd rfl (by first | exact Or.inl rfl | exact Or.inr rfl)) (jgs_cons (jg_name (i := 3) sc.nd rfl (by first | exact Or.inl rfl | exact Or.inr rfl)) jgs_nil)))) (fun _ _ _ _ _ => jts_nil) (fun _ _ _ _ _ => (je_bin op_mulA os_mul (je_bin op_mod os_mod (je_var (i := 3) rfl (by first | exact Or.inl rfl | exact Or.inr (Or.inl rfl) | exact Or.inr (Or.inr rfl))) je_int) (je_bin op_addA os_add (je_var (i := 2) rfl (by first | exact Or.inl rfl | exact Or.inr (Or.inl rfl) | exact Or.inr (Or.inr rfl))) je_int)))))) ja_nil)) je_int))) ja_nil)))) (jc_sh (je_rev (je_var (i := 1) rfl (by first | exact Or.inl rfl | exact Or.inr (Or.inl rfl) | exact Or.inr (Or.inr rfl)))))))))))
theorem ok__law_draw (T : Tx w K mg) : FnOk P w K mg base CX0 1 T.a__law_draw T.d__law_draw ["_law_deck_here", "_law_most"] (spF K 2 f__law_draw) := by
  have sc := sc__law_draw
  refine fn_J T.F__law_draw sc rfl rfl (by decide) fun cdv A outer s H E hr => ?_
  exact (jss_cons (js_setIx (jl_var (i := 0) rfl (by first | exact Or.inl rfl | exact Or.inr (Or.inl rfl) | exact Or.inr (Or.inr rfl))) je_int (jc_sh (je_bin op_addA os_add (je_cell (jc_ix (jc_lo (jl_var (i := 0) rfl (by first | exact Or.inl rfl | exact Or.inr (Or.inl rfl) | exact Or.inr (Or.inr rfl)))) je_int (fun _ _ => rfl))) je_int)))
    (jss_cons (js_set (i := 2) sc.nd rfl (by first | exact Or.inl rfl | exact Or.inr rfl) (jc_sh (je_bin op_addA os_add (je_cell (jc_ix (jc_lo (jl_var (i := 0) rfl (by first | exact Or.inl rfl | exact Or.inr (Or.inl rfl) | exact Or.inr (Or.inr rfl)))) je_int (fun _ _ => rfl))) (je_bin op_mulA os_mul je_int (je_cell (jc_ix (jc_lo (jl_var (i := 0) rfl (by first | exact Or.inl rfl | exact Or.inr (Or.inl rfl) | exact Or.inr (Or.inr rfl)))) je_int (fun _ _ => rfl)))))))
    (jss_cons (js_if (jt_cmp op_gtA os_ord (je_callBC call_lenA cs_len (by rfl) T.z_len (by decide +kernel) (ja_c (jc_lo (jl_var (i := 0) rfl (by first | exact Or.inl rfl | exact Or.inr (Or.inl rfl) | exact Or.inr (Or.inr rfl)))) ja_nil)) je_int (nomark _))
    (jss_cons (js_set (i := 2) sc.nd rfl (by first | exact Or.inl rfl | exact Or.inr rfl) (jc_sh (je_cell (jc_pop0 (PE0 := (pe_bm0 PySem.F.plainAttrs_list PySem.F.slot_list_pop PySem.F.type_list_pop mt_pop (jl_var (i := 0) rfl (by first | exact Or.inl rfl | exact Or.inr (Or.inl rfl) | exact Or.inr (Or.inr rfl)))))))))
    (jss_one (js_if (jt_cmp op_geA os_ord (je_var (i := 2) rfl (by first | exact Or.inl rfl | exact Or.inr (Or.inl rfl) | exact Or.inr (Or.inr rfl))) (je_bin op_pow os_pow je_int je_int) (nomark _))
    (jss_cons (js_app (jl_var (i := 0) rfl (by first | exact Or.inl rfl | exact Or.inr (Or.inl rfl) | exact Or.inr (Or.inr rfl))) (jc_sh (je_bin op_fdivW os_div (je_var (i := 2) rfl (by first | exact Or.inl rfl | exact Or.inr (Or.inl rfl) | exact Or.inr (Or.inr rfl))) (je_var (i := 1) rfl (by first | exact Or.inl rfl | exact Or.inr (Or.inl rfl) | exact Or.inr (Or.inr rfl))))) (PE0 := (pe_bm PySem.F.plainAttrs_list PySem.F.slot_list_append PySem.F.type_list_append mt_append (jl_var (i := 0) rfl (by first | exact Or.inl rfl | exact Or.inr (Or.inl rfl) | exact Or.inr (Or.inr rfl))) (pa_cons (jc_sh (je_bin op_fdivW os_div (je_var (i := 2) rfl (by first | exact Or.inl rfl | exact Or.inr (Or.inl rfl) | exact Or.inr (Or.inr rfl))) (je_var (i := 1) rfl (by first | exact Or.inl rfl | exact Or.inr (Or.inl rfl) | exact Or.inr (Or.inr rfl))))) pa_nil))))
    (jss_one (js_ret (jc_sh (je_bin op_mod os_mod (je_var (i := 2) rfl (by first | exact Or.inl rfl | exact Or.inr (Or.inl rfl) | exact Or.inr (Or.inr rfl))) (je_var (i := 1) rfl (by first | exact Or.inl rfl | exact Or.inr (Or.inl rfl) | exact Or.inr (Or.inr rfl))))))))
    jss_nil)))
    jss_nil)
    (jss_cons (js_set (i := 3) sc.nd rfl (by first | exact Or.inl rfl | exact Or.inr rfl) (jc_sh (je_bin op_mod os_mod (je_bin op_mulA os_mul (je_bin op_addA os_add (je_bin op_mod os_mod (je_var (i := 2) rfl (by first | exact Or.inl rfl | exact Or.inr (Or.inl rfl) | exact Or.inr (Or.inr rfl))) je_int) (je_bin op_mulA os_mul je_int (je_cell (jc_ix (jc_lo (jl_var (i := 0) rfl (by first | exact Or.inl rfl | exact Or.inr (Or.inl rfl) | exact Or.inr (Or.inr rfl)))) je_int (fun _ _ => rfl))))) je_int) je_int)))
    (jss_cons (js_set (i := 3) sc.nd rfl (by first | exact Or.inl rfl | exact Or.inr rfl) (jc_sh (je_bin op_mod os_mod (je_bin op_addA os_add (je_bin op_addA os_add (je_bin op_mulA os_mul (je_var (i := 3) rfl (by first | exact Or.inl rfl | exact Or.inr (Or.inl rfl) | exact Or.inr (Or.inr rfl))) (je_var (i := 3) rfl (by first | exact Or.inl rfl | exact Or.inr (Or.inl rfl) | exact Or.inr (Or.inr rfl)))) (je_bin op_mulA os_mul je_int (je_var (i := 3) rfl (by first | exact Or.inl rfl | exact Or.inr (Or.inl rfl) | exact Or.inr (Or.inr rfl))))) (je_cell (jc_ix (jc_lo (jl_var (i := 0) rfl (by first | exact Or.inl rfl | exact Or.inr (Or.inl rfl) | exact Or.inr (Or.inr rfl)))) je_int (fun _ _ => rfl)))) je_int)))
    (jss_one (js_ret (jc_sh (je_bin op_mod os_mod (je_bin op_fdivW os_div (je_var (i := 3) rfl (by first | exact Or.inl rfl | exact Or.inr (Or.inl rfl) | exact Or.inr (Or.inr rfl))) je_int) (je_var (i := 1) rfl (by first | exact Or.inl rfl | exact Or.inr (Or.inl rfl) | exact Or.inr (Or.inr rfl))))))))))))
theorem ok__law_some (T : Tx w K mg) : FnOk P w K mg base CX0 2 T.a__law_some T.d__law_some ["_law_deck_here", "_law_few", "_law_most"] (spF K 3 f__law_some) := by
  have sc := sc__law_some
  refine fn_J T.F__law_some sc rfl rfl (by decide) fun cdv A outer s H E hr => ?_
  exact (jss_one (js_ret (jc_sh (je_ix (je_lst (ja_c (jc_sh (je_cell (jc_call (ok__law_draw T) rfl (hr.mono (by decide)) (by rfl) T.g__law_draw T.F__law_draw.kp T.b__law_draw (ja_c (jc_lo (jl_var (i := 0) rfl (by first | exact Or.inl rfl | exact Or.inr (Or.inl rfl) | exact Or.inr (Or.inr rfl)))) (ja_c (jc_sh (je_bin op_addA os_add (je_var (i := 1) rfl (by first | exact Or.inl rfl | exact Or.inr (Or.inl rfl) | exact Or.inr (Or.inr rfl))) je_int)) ja_nil))))) (ja_c (jc_sh (je_var (i := 2) rfl (by first | exact Or.inl rfl | exact Or.inr (Or.inl rfl) | exact Or.inr (Or.inr rfl)))) ja_nil))) (je_callTy call_int1 cs_int (by rfl) T.z_int (by decide +kernel) (ja_c (jc_sh (je_cmp (op_eqA hr.units) os_eq (je_cell (jc_call (ok__law_draw T) rfl (hr.mono (by decide)) (by rfl) T.g__law_draw T.F__law_draw.kp T.b__law_draw (ja_c (jc_lo (jl_var (i := 0) rfl (by first | exact Or.inl rfl | exact Or.inr (Or.inl rfl) | exact Or.inr (Or.inr rfl)))) (ja_c (jc_sh je_int) ja_nil)))) je_int (nomark _))) ja_nil)) (fun _ _ => rfl)))))
theorem ok__law_names (T : Tx w K mg) : FnOk P w K mg base CX0 2 T.a__law_names T.d__law_names ["_law_deck_here", "_law_many"] (spF K 2 f__law_names) := by
  have sc := sc__law_names
  refine fn_J T.F__law_names sc rfl rfl (by decide) fun cdv A outer s H E hr => ?_
  exact (jss_cons (js_set (i := 2) sc.nd rfl (by first | exact Or.inl rfl | exact Or.inr rfl) (jc_sh je_str))
    (jss_cons (js_lc (mc := (fun m => mLo (mNew m))) (i := 3) (own := [("_law_k", 7)]) (by decide) rfl sc.nd rfl rfl mc_new (sw_true rfl rfl rfl (by decide +kernel)) (ji_range1 (by rfl) T.z_range (je_bin op_addA os_add je_int (je_cell (jc_call (ok__law_draw T) rfl (hr.mono (by decide)) (by rfl) T.g__law_draw T.F__law_draw.kp T.b__law_draw (ja_c (jc_lo (jl_var (i := 0) rfl (by first | exact Or.inl rfl | exact Or.inr (Or.inl rfl) | exact Or.inr (Or.inr rfl)))) (ja_c (jc_sh je_int) ja_nil)))))) (blkOk_by (N := N__law_names) (sc := defScope s__law_names) (by decide +kernel)) (fun _ _ _ _ _ => (jg_name (i := 7) sc.nd rfl (by first | exact Or.inl rfl | exact Or.inr rfl))) (fun _ _ _ _ _ => jts_nil) (fun _ _ _ _ _ => (je_ix (je_var (i := 2) rfl (by first | exact Or.inl rfl | exact Or.inr (Or.inl rfl) | exact Or.inr (Or.inr rfl))) (je_cell (jc_call (ok__law_draw T) rfl (hr.mono (by decide)) (by rfl) T.g__law_draw T.F__law_draw.kp T.b__law_draw (ja_c (jc_lo (jl_var (i := 0) rfl (by first | exact Or.inl rfl | exact Or.inr (Or.inl rfl) | exact Or.inr (Or.inr rfl)))) (ja_c (jc_sh je_int) ja_nil)))) (fun _ _ => rfl))))
    (jss_cons (js_set (i := 4) sc.nd rfl (by first | exact Or.inl rfl | exact Or.inr rfl) (jc_sh (je_cell (jc_call (ok__law_draw T) rfl (hr.mono (by decide)) (by rfl) T.g__law_draw T.F__law_draw.kp T.b__law_draw (ja_c (jc_lo (jl_var (i := 0) rfl (by first | exact Or.inl rfl | exact Or.inr (Or.inl rfl) | exact Or.inr (Or.inr rfl)))) (ja_c (jc_sh (je_callBC call_lenA cs_len (by rfl) T.z_len (by decide +kernel) (ja_c (jc_lo (jl_var (i := 3) rfl (by first | exact Or.inl rfl | exact Or.inr (Or.inl rfl) | exact Or.inr (Or.inr rfl)))) ja_nil))) ja_nil))))))
    (jss_cons (js_set (i := 5) sc.nd rfl (by first | exact Or.inl rfl | exact Or.inr rfl) (jc_sh (je_cell (jc_call (ok__law_draw T) rfl (hr.mono (by decide)) (by rfl) T.g__law_draw T.F__law_draw.kp T.b__law_draw (ja_c (jc_lo (jl_var (i := 0) rfl (by first | exact Or.inl rfl | exact Or.inr (Or.inl rfl) | exact Or.inr (Or.inr rfl)))) (ja_c (jc_sh je_int) ja_nil))))))
    (jss_cons (js_set (i := 6) sc.nd rfl (by first | exact Or.inl rfl | exact Or.inr rfl) (jc_lo (jl_new (jo_lst ja_nil))))
    (jss_cons (js_for PassesOwn.never rfl (ji_range1 (by rfl) T.z_range (je_var (i := 1) rfl (by first | exact Or.inl rfl | exact Or.inr (Or.inl rfl) | exact Or.inr (Or.inr rfl)))) (jg_name (i := 7) sc.nd rfl (by first | exact Or.inl rfl | exact Or.inr rfl))
    (jss_cons (js_setIx (jl_var (i := 3) rfl (by first | exact Or.inl rfl | exact Or.inr (Or.inl rfl) | exact Or.inr (Or.inr rfl))) (je_var (i := 4) rfl (by first | exact Or.inl rfl | exact Or.inr (Or.inl rfl) | exact Or.inr (Or.inr rfl))) (jc_sh (je_ix (je_var (i := 2) rfl (by first | exact Or.inl rfl | exact Or.inr (Or.inl rfl) | exact Or.inr (Or.inr rfl))) (je_bin op_mod os_mod (je_bin op_addA os_add (je_var (i := 5) rfl (by first | exact Or.inl rfl | exact Or.inr (Or.inl rfl) | exact Or.inr (Or.inr rfl))) (je_var (i := 7) rfl (by first | exact Or.inl rfl | exact Or.inr (Or.inl rfl) | exact Or.inr (Or.inr rfl)))) je_int) (fun _ _ => rfl))))
    (jss_one (js_app (jl_var (i := 6) rfl (by first | exact Or.inl rfl | exact Or.inr (Or.inl rfl) | exact Or.inr (Or.inr rfl))) (jc_sh (je_bin op_addA os_add (je_bin op_addA os_add (je_m1C PySem.F.slot_str_join PySem.F.type_str_join mt_join ms_join je_str (jc_lo (jl_var (i := 3) rfl (by first | exact Or.inl rfl | exact Or.inr (Or.inl rfl) | exact Or.inr (Or.inr rfl))))) je_str) (je_bin op_mulA os_mul je_str (je_bin op_mod os_mod (je_var (i := 7) rfl (by first | exact Or.inl rfl | exact Or.inr (Or.inl rfl) | exact Or.inr (Or.inr rfl))) je_int)))) (PE0 := (pe_bm PySem.F.plainAttrs_list PySem.F.slot_list_append PySem.F.type_list_append mt_append (jl_var (i := 6) rfl (by first | exact Or.inl rfl | exact Or.inr (Or.inl rfl) | exact Or.inr (Or.inr rfl))) (pa_cons (jc_sh (je_bin op_addA os_add (je_bin op_addA os_add (je_m1C PySem.F.slot_str_join PySem.F.type_str_join mt_join ms_join je_str (jc_lo (jl_var (i := 3) rfl (by first | exact Or.inl rfl | exact Or.inr (Or.inl rfl) | exact Or.inr (Or.inr rfl))))) je_str) (je_bin op_mulA os_mul je_str (je_bin op_mod os_mod (je_var (i := 7) rfl (by first | exact Or.inl rfl | exact Or.inr (Or.inl rfl) | exact Or.inr (Or.inr rfl))) je_int)))) pa_nil)))))))
    (jss_cons (js_if (jt_cmp (op_eqA hr.units) os_eq (je_cell (jc_call (ok__law_draw T) rfl (hr.mono (by decide)) (by rfl) T.g__law_draw T.F__law_draw.kp T.b__law_draw (ja_c (jc_lo (jl_var (i := 0) rfl (by first | exact Or.inl rfl | exact Or.inr (Or.inl rfl) | exact Or.inr (Or.inr rfl)))) (ja_c (jc_sh je_int) ja_nil)))) je_int (nomark _))
    (jss_one (js_setIx (jl_var (i := 6) rfl (by first | exact Or.inl rfl | exact Or.inr (Or.inl rfl) | exact Or.inr (Or.inr rfl))) (je_cell (jc_call (ok__law_draw T) rfl (hr.mono (by decide)) (by rfl) T.g__law_draw T.F__law_draw.kp T.b__law_draw (ja_c (jc_lo (jl_var (i := 0) rfl (by first | exact Or.inl rfl | exact Or.inr (Or.inl rfl) | exact Or.inr (Or.inr rfl)))) (ja_c (jc_sh (je_var (i := 1) rfl (by first | exact Or.inl rfl | exact Or.inr (Or.inl rfl) | exact Or.inr (Or.inr rfl)))) ja_nil)))) (jc_sh (je_ix (je_lst (ja_c (jc_sh je_str) (ja_c (jc_sh je_str) (ja_c (jc_sh je_str) (ja_c (jc_sh je_str) (ja_c (jc_sh je_str) (ja_c (jc_sh je_str) (ja_c (jc_sh je_str) (ja_c (jc_sh je_str) ja_nil))))))))) (je_bin op_mod os_mod (je_var (i := 5) rfl (by first | exact Or.inl rfl | exact Or.inr (Or.inl rfl) | exact Or.inr (Or.inr rfl))) je_int) (fun _ _ => rfl)))))
    jss_nil)
    (jss_one (js_ret (jc_sh (je_seal (jl_var (i := 6) rfl (by first | exact Or.inl rfl | exact Or.inr (Or.inl rfl) | exact Or.inr (Or.inr rfl))))))))))))))
theorem ok__law_boxes (T : Tx w K mg) : FnOk P w K mg base CX0 3 T.a__law_boxes T.d__law_boxes ["_law_deck_here", "_law_names_here"] (spF K 2 f__law_boxes) := by
  have sc := sc__law_boxes
  refine fn_J T.F__law_boxes sc rfl rfl (by decide) fun cdv A outer s H E hr => ?_
  exact (jss_cons (js_set (i := 2) sc.nd rfl (by first | exact Or.inl rfl | exact Or.inr rfl) (jc_lo (jl_new (jo_lst (ja_c (jc_sh (je_ix (je_var (i := 1) rfl (by first | exact Or.inl rfl | exact Or.inr (Or.inl rfl) | exact Or.inr (Or.inr rfl))) je_int (fun _ _ => rfl))) (ja_c (jc_sh (je_ix (je_var (i := 1) rfl (by first | exact Or.inl rfl | exact Or.inr (Or.inl rfl) | exact Or.inr (Or.inr rfl))) je_int (fun _ _ => rfl))) (ja_c (jc_sh (je_ix (je_var (i := 1) rfl (by first | exact Or.inl rfl | exact Or.inr (Or.inl rfl) | exact Or.inr (Or.inr rfl))) je_int (fun _ _ => rfl))) (ja_c (jc_sh (je_bin op_addA os_add (je_bin op_addA os_add (je_ix (je_var (i := 1) rfl (by first | exact Or.inl rfl | exact Or.inr (Or.inl rfl) | exact Or.inr (Or.inr rfl))) je_int (fun _ _ => rfl)) je_str) (je_ix (je_var (i := 1) rfl (by first | exact Or.inl rfl | exact Or.inr (Or.inl rfl) | exact Or.inr (Or.inr rfl))) je_int (fun _ _ => rfl)))) (ja_c (jc_sh (je_bin op_addA os_add (je_bin op_addA os_add (je_ix (je_var (i := 1) rfl (by first | exact Or.inl rfl | exact Or.inr (Or.inl rfl) | exact Or.inr (Or.inr rfl))) je_int (fun _ _ => rfl)) je_str) (je_ix (je_var (i := 1) rfl (by first | exact Or.inl rfl | exact Or.inr (Or.inl rfl) | exact Or.inr (Or.inr rfl))) je_int (fun _ _ => rfl)))) (ja_c (jc_sh (je_ix (je_var (i := 1) rfl (by first | exact Or.inl rfl | exact Or.inr (Or.inl rfl) | exact Or.inr (Or.inr rfl))) je_int (fun _ _ => rfl))) ja_nil))))))))))
    (jss_cons (js_set (i := 2) sc.nd rfl (by first | exact Or.inl rfl | exact Or.inr rfl) (jc_lo (jl_new (jo_cat (jc_lo (jl_var (i := 2) rfl (by first | exact Or.inl rfl | exact Or.inr (Or.inl rfl) | exact Or.inr (Or.inr rfl)))) (jc_sh (je_lst (ja_c (jc_sh (je_bin op_addA os_add (je_bin op_addA os_add (je_ix (je_var (i := 1) rfl (by first | exact Or.inl rfl | exact Or.inr (Or.inl rfl) | exact Or.inr (Or.inr rfl))) je_int (fun _ _ => rfl)) je_str) (je_ix (je_var (i := 1) rfl (by first | exact Or.inl rfl | exact Or.inr (Or.inl rfl) | exact Or.inr (Or.inr rfl))) je_int (fun _ _ => rfl)))) (ja_c (jc_sh (je_ix (je_var (i := 1) rfl (by first | exact Or.inl rfl | exact Or.inr (Or.inl rfl) | exact Or.inr (Or.inr rfl))) je_int (fun _ _ => rfl))) (ja_c (jc_sh (je_ix (je_var (i := 1) rfl (by first | exact Or.inl rfl | exact Or.inr (Or.inl rfl) | exact Or.inr (Or.inr rfl))) je_int (fun _ _ => rfl))) ja_nil)))))))))
    (jss_cons (js_if (jt_cmp (op_eqA hr.units) os_eq (je_cell (jc_call (ok__law_draw T) rfl (hr.mono (by decide)) (by rfl) T.g__law_draw T.F__law_draw.kp T.b__law_draw (ja_c (jc_lo (jl_var (i := 0) rfl (by first | exact Or.inl rfl | exact Or.inr (Or.inl rfl) | exact Or.inr (Or.inr rfl)))) (ja_c (jc_sh je_int) ja_nil)))) je_int (nomark _))
    (jss_one (js_setIx (jl_var (i := 2) rfl (by first | exact Or.inl rfl | exact Or.inr (Or.inl rfl) | exact Or.inr (Or.inr rfl))) je_int (jc_sh (je_bin op_addA os_add (je_bin op_addA os_add (je_ix (je_var (i := 1) rfl (by first | exact Or.inl rfl | exact Or.inr (Or.inl rfl) | exact Or.inr (Or.inr rfl))) je_int (fun _ _ => rfl)) je_str) (je_ix (je_var (i := 1) rfl (by first | exact Or.inl rfl | exact Or.inr (Or.inl rfl) | exact Or.inr (Or.inr rfl))) je_int (fun _ _ => rfl))))))
    jss_nil)
    (jss_one (js_ret (jc_sh (je_slice (je_sliceC (jc_lo (jl_var (i := 2) rfl (by first | exact Or.inl rfl | exact Or.inr (Or.inl rfl) | exact Or.inr (Or.inr rfl)))) (jp_some (je_cell (jc_call (ok__law_draw T) rfl (hr.mono (by decide)) (by rfl) T.g__law_draw T.F__law_draw.kp T.b__law_draw (ja_c (jc_lo (jl_var (i := 0) rfl (by first | exact Or.inl rfl | exact Or.inr (Or.inl rfl) | exact Or.inr (Or.inr rfl)))) (ja_c (jc_sh je_int) ja_nil))))) jp_none) jp_none (jp_some (je_bin op_addA os_add je_int (je_cell (jc_call (ok__law_some T) rfl (hr.mono (by decide)) (by rfl) T.g__law_some T.F__law_some.kp T.b__law_some (ja_c (jc_lo (jl_var (i := 0) rfl (by first | exact Or.inl rfl | exact Or.inr (Or.inl rfl) | exact Or.inr (Or.inr rfl)))) (ja_c (jc_sh je_int) (ja_c (jc_sh je_int) ja_nil))))))))))))))
theorem ok__law_one_of (T : Tx w K mg) : FnOk P w K mg base CX0 2 T.a__law_one_of T.d__law_one_of ["_law_deck_here", "_law_some_here"] (spF K 2 f__law_one_of) := by
  have sc := sc__law_one_of
  refine fn_J T.F__law_one_of sc rfl rfl (by decide) fun cdv A outer s H E hr => ?_
  exact (jss_one (js_ret (jc_sh (je_cell (jc_ix (jc_var (i := 1) rfl (by first | exact Or.inl rfl | exact Or.inr (Or.inl rfl) | exact Or.inr (Or.inr rfl))) (je_cell (jc_call (ok__law_draw T) rfl (hr.mono (by decide)) (by rfl) T.g__law_draw T.F__law_draw.kp T.b__law_draw (ja_c (jc_lo (jl_var (i := 0) rfl (by first | exact Or.inl rfl | exact Or.inr (Or.inl rfl) | exact Or.inr (Or.inr rfl)))) (ja_c (jc_sh (je_callBC call_lenA cs_len (by rfl) T.z_len (by decide +kernel) (ja_c (jc_var (i := 1) rfl (by first | exact Or.inl rfl | exact Or.inr (Or.inl rfl) | exact Or.inr (Or.inr rfl))) ja_nil))) ja_nil)))) (fun _ _ => rfl))))))
theorem ok__law_picked (T : Tx w K mg) : FnOk P w K mg base CX0 2 T.a__law_picked T.d__law_picked ["_law_deck_here", "_law_some_here", "_law_many"] (spF K 3 f__law_picked) := by
  have sc := sc__law_picked
  refine fn_J T.F__law_picked sc rfl rfl (by decide) fun cdv A outer s H E hr => ?_
  exact (jss_cons (js_set (i := 3) sc.nd rfl (by first | exact Or.inl rfl | exact Or.inr rfl) (jc_lo (jl_new (jo_listOf (by rfl) T.z_list (by decide +kernel) (jc_sh (je_var (i := 1) rfl (by first | exact Or.inl rfl | exact Or.inr (Or.inl rfl) | exact Or.inr (Or.inr rfl))))))))
    (jss_cons (js_set (i := 4) sc.nd rfl (by first | exact Or.inl rfl | exact Or.inr rfl) (jc_lo (jl_new (jo_lst ja_nil))))
    (jss_cons (js_for PassesOwn.never rfl (ji_range1 (by rfl) T.z_range (je_callB (call_min2 rfl) (cs_II (f := fun i j => if j < i then j else i)) (by rfl) T.z_min (by decide +kernel) (ja_c (jc_sh (je_var (i := 2) rfl (by first | exact Or.inl rfl | exact Or.inr (Or.inl rfl) | exact Or.inr (Or.inr rfl)))) (ja_c (jc_sh (je_callBC call_lenA cs_len (by rfl) T.z_len (by decide +kernel) (ja_c (jc_lo (jl_var (i := 3) rfl (by first | exact Or.inl rfl | exact Or.inr (Or.inl rfl) | exact Or.inr (Or.inr rfl)))) ja_nil))) ja_nil)))) (jg_name (i := 5) sc.nd rfl (by first | exact Or.inl rfl | exact Or.inr rfl))
    (jss_one (js_app (jl_var (i := 4) rfl (by first | exact Or.inl rfl | exact Or.inr (Or.inl rfl) | exact Or.inr (Or.inr rfl))) (jc_sh (je_cell (jc_popAt (jl_var (i := 3) rfl (by first | exact Or.inl rfl | exact Or.inr (Or.inl rfl) | exact Or.inr (Or.inr rfl))) (je_cell (jc_call (ok__law_draw T) rfl (hr.mono (by decide)) (by rfl) T.g__law_draw T.F__law_draw.kp T.b__law_draw (ja_c (jc_lo (jl_var (i := 0) rfl (by first | exact Or.inl rfl | exact Or.inr (Or.inl rfl) | exact Or.inr (Or.inr rfl)))) (ja_c (jc_sh (je_callBC call_lenA cs_len (by rfl) T.z_len (by decide +kernel) (ja_c (jc_lo (jl_var (i := 3) rfl (by first | exact Or.inl rfl | exact Or.inr (Or.inl rfl) | exact Or.inr (Or.inr rfl)))) ja_nil))) ja_nil)))) (PE0 := (pe_bm PySem.F.plainAttrs_list PySem.F.slot_list_pop PySem.F.type_list_pop mt_popAt (jl_var (i := 3) rfl (by first | exact Or.inl rfl | exact Or.inr (Or.inl rfl) | exact Or.inr (Or.inr rfl))) (pa_cons (je_cell (jc_call (ok__law_draw T) rfl (hr.mono (by decide)) (by rfl) T.g__law_draw T.F__law_draw.kp T.b__law_draw (ja_c (jc_lo (jl_var (i := 0) rfl (by first | exact Or.inl rfl | exact Or.inr (Or.inl rfl) | exact Or.inr (Or.inr rfl)))) (ja_c (jc_sh (je_callBC call_lenA cs_len (by rfl) T.z_len (by decide +kernel) (ja_c (jc_lo (jl_var (i := 3) rfl (by first | exact Or.inl rfl | exact Or.inr (Or.inl rfl) | exact Or.inr (Or.inr rfl)))) ja_nil))) ja_nil)))) pa_nil)))))) (PE0 := (pe_bm PySem.F.plainAttrs_list PySem.F.slot_list_append PySem.F.type_list_append mt_append (jl_var (i := 4) rfl (by first | exact Or.inl rfl | exact Or.inr (Or.inl rfl) | exact Or.inr (Or.inr rfl))) (pa_cons (jc_sh (je_cell (jc_popAt (jl_var (i := 3) rfl (by first | exact Or.inl rfl | exact Or.inr (Or.inl rfl) | exact Or.inr (Or.inr rfl))) (je_cell (jc_call (ok__law_draw T) rfl (hr.mono (by decide)) (by rfl) T.g__law_draw T.F__law_draw.kp T.b__law_draw (ja_c (jc_lo (jl_var (i := 0) rfl (by first | exact Or.inl rfl | exact Or.inr (Or.inl rfl) | exact Or.inr (Or.inr rfl)))) (ja_c (jc_sh (je_callBC call_lenA cs_len (by rfl) T.z_len (by decide +kernel) (ja_c (jc_lo (jl_var (i := 3) rfl (by first | exact Or.inl rfl | exact Or.inr (Or.inl rfl) | exact Or.inr (Or.inr rfl)))) ja_nil))) ja_nil)))) (PE0 := (pe_bm PySem.F.plainAttrs_list PySem.F.slot_list_pop PySem.F.type_list_pop mt_popAt (jl_var (i := 3) rfl (by first | exact Or.inl rfl | exact Or.inr (Or.inl rfl) | exact Or.inr (Or.inr rfl))) (pa_cons (je_cell (jc_call (ok__law_draw T) rfl (hr.mono (by decide)) (by rfl) T.g__law_draw T.F__law_draw.kp T.b__law_draw (ja_c (jc_lo (jl_var (i := 0) rfl (by first | exact Or.inl rfl | exact Or.inr (Or.inl rfl) | exact Or.inr (Or.inr rfl)))) (ja_c (jc_sh (je_callBC call_lenA cs_len (by rfl) T.z_len (by decide +kernel) (ja_c (jc_lo (jl_var (i := 3) rfl (by first | exact Or.inl rfl | exact Or.inr (Or.inl rfl) | exact Or.inr (Or.inr rfl)))) ja_nil))) ja_nil)))) pa_nil)))))) pa_nil))))))
    (jss_one (js_ret (jc_sh (je_tupOf (by rfl) T.z_tuple (by decide +kernel) (jc_lo (jl_var (i := 4) rfl (by first | exact Or.inl rfl | exact Or.inr (Or.inl rfl) | exact Or.inr (Or.inr rfl)))))))))))
theorem ok__law_plain (T : Tx w K mg) : FnOk P w K mg base CX0 3 T.a__law_plain T.d__law_plain ["_law_deck_here", "_law_case"] (spF K 2 f__law_plain) := by
  have sc := sc__law_plain
  refine fn_J T.F__law_plain sc rfl rfl (by decide) fun cdv A outer s H E hr => ?_
  exact (jss_cons (js_set (i := 2) sc.nd rfl (by first | exact Or.inl rfl | exact Or.inr rfl) (jc_sh (je_cell (jc_call (ok__law_draw T) rfl (hr.mono (by decide)) (by rfl) T.g__law_draw T.F__law_draw.kp T.b__law_draw (ja_c (jc_lo (jl_var (i := 0) rfl (by first | exact Or.inl rfl | exact Or.inr (Or.inl rfl) | exact Or.inr (Or.inr rfl)))) (ja_c (jc_sh je_int) ja_nil))))))
    (jss_cons (js_asg (jc_sh (je_fr (jo_comp (own := [("_law_k", 6)]) (by decide) rfl sc.nd (ji_range1 (by rfl) T.z_range je_int) (blkOk_by (N := N__law_plain) (sc := defScope s__law_plain) (by decide +kernel)) (fun _ _ _ _ _ => (jg_name (i := 6) sc.nd rfl (by first | exact Or.inl rfl | exact Or.inr rfl))) (fun _ _ _ _ _ => jts_nil) (fun _ _ _ _ _ => (je_cell (jc_call (ok__law_one_of T) rfl (hr.mono (by decide)) (by rfl) T.g__law_one_of T.F__law_one_of.kp T.b__law_one_of (ja_c (jc_lo (jl_var (i := 0) rfl (by first | exact Or.inl rfl | exact Or.inr (Or.inl rfl) | exact Or.inr (Or.inr rfl)))) (ja_c (jc_sh (je_cell (jc_dget hr.units (jl_var (i := 1) rfl (by first | exact Or.inl rfl | exact Or.inr (Or.inl rfl) | exact Or.inr (Or.inr rfl))) je_str (fun _ _ => rfl)))) ja_nil)))))))) (jg_lst rfl (jgs_cons (jg_name (i := 3) sc.nd rfl (by first | exact Or.inl rfl | exact Or.inr rfl)) (jgs_cons (jg_name (i := 4) sc.nd rfl (by first | exact Or.inl rfl | exact Or.inr rfl)) (jgs_cons (jg_name (i := 5) sc.nd rfl (by first | exact Or.inl rfl | exact Or.inr rfl)) jgs_nil)))))
    (jss_cons (js_if (jt_cmp op_ltA os_ord (je_var (i := 2) rfl (by first | exact Or.inl rfl | exact Or.inr (Or.inl rfl) | exact Or.inr (Or.inr rfl))) je_int (nomark _))
    (jss_one (js_ret (jc_sh (je_tup (ja_c (jc_sh je_str) (ja_c (jc_sh (je_var (i := 3) rfl (by first | exact Or.inl rfl | exact Or.inr (Or.inl rfl) | exact Or.inr (Or.inr rfl)))) (ja_c (jc_sh (je_cell (jc_call (ok__law_one_of T) rfl (hr.mono (by decide)) (by rfl) T.g__law_one_of T.F__law_one_of.kp T.b__law_one_of (ja_c (jc_lo (jl_var (i := 0) rfl (by first | exact Or.inl rfl | exact Or.inr (Or.inl rfl) | exact Or.inr (Or.inr rfl)))) (ja_c (jc_sh (je_cell (jc_dget hr.units (jl_var (i := 1) rfl (by first | exact Or.inl rfl | exact Or.inr (Or.inl rfl) | exact Or.inr (Or.inr rfl))) je_str (fun _ _ => rfl)))) ja_nil))))) ja_nil)))))))
    jss_nil)
    (jss_cons (js_if (jt_cmp (op_eqA hr.units) os_eq (je_var (i := 2) rfl (by first | exact Or.inl rfl | exact Or.inr (Or.inl rfl) | exact Or.inr (Or.inr rfl))) je_int (nomark _))
    (jss_one (js_ret (jc_sh (je_tup (ja_c (jc_sh je_str) (ja_c (jc_sh (je_var (i := 3) rfl (by first | exact Or.inl rfl | exact Or.inr (Or.inl rfl) | exact Or.inr (Or.inr rfl)))) ja_nil))))))
    jss_nil)
    (jss_cons (js_if (jt_cmp (op_eqA hr.units) os_eq (je_var (i := 2) rfl (by first | exact Or.inl rfl | exact Or.inr (Or.inl rfl) | exact Or.inr (Or.inr rfl))) je_int (nomark _))
    (jss_one (js_ret (jc_sh (je_tup (ja_c (jc_sh je_str) (ja_c (jc_sh (je_var (i := 3) rfl (by first | exact Or.inl rfl | exact Or.inr (Or.inl rfl) | exact Or.inr (Or.inr rfl)))) (ja_c (jc_sh (je_ix (je_lst (ja_c (jc_sh je_int) (ja_c (jc_sh je_int) (ja_c (jc_sh je_int) (ja_c (jc_sh (je_cell (jc_call (ok__law_draw T) rfl (hr.mono (by decide)) (by rfl) T.g__law_draw T.F__law_draw.kp T.b__law_draw (ja_c (jc_lo (jl_var (i := 0) rfl (by first | exact Or.inl rfl | exact Or.inr (Or.inl rfl) | exact Or.inr (Or.inr rfl)))) (ja_c (jc_sh je_int) ja_nil))))) ja_nil))))) (je_cell (jc_call (ok__law_draw T) rfl (hr.mono (by decide)) (by rfl) T.g__law_draw T.F__law_draw.kp T.b__law_draw (ja_c (jc_lo (jl_var (i := 0) rfl (by first | exact Or.inl rfl | exact Or.inr (Or.inl rfl) | exact Or.inr (Or.inr rfl)))) (ja_c (jc_sh je_int) ja_nil)))) (fun _ _ => rfl))) ja_nil)))))))
    jss_nil)
    (jss_cons (js_if (jt_cmp op_ltA os_ord (je_var (i := 2) rfl (by first | exact Or.inl rfl | exact Or.inr (Or.inl rfl) | exact Or.inr (Or.inr rfl))) je_int (nomark _))
    (jss_one (js_ret (jc_sh (je_tup (ja_c (jc_sh je_str) (ja_c (jc_sh (je_var (i := 3) rfl (by first | exact Or.inl rfl | exact Or.inr (Or.inl rfl) | exact Or.inr (Or.inr rfl)))) (ja_c (jc_sh (je_var (i := 4) rfl (by first | exact Or.inl rfl | exact Or.inr (Or.inl rfl) | exact Or.inr (Or.inr rfl)))) ja_nil)))))))
    jss_nil)
    (jss_cons (js_if (jt_cmp op_ltA os_ord (je_var (i := 2) rfl (by first | exact Or.inl rfl | exact Or.inr (Or.inl rfl) | exact Or.inr (Or.inr rfl))) je_int (nomark _))
    (jss_one (js_ret (jc_sh (je_ix (je_lst (ja_c (jc_sh (je_tup (ja_c (jc_sh je_str) (ja_c (jc_sh (je_var (i := 3) rfl (by first | exact Or.inl rfl | exact Or.inr (Or.inl rfl) | exact Or.inr (Or.inr rfl)))) (ja_c (jc_sh (je_var (i := 4) rfl (by first | exact Or.inl rfl | exact Or.inr (Or.inl rfl) | exact Or.inr (Or.inr rfl)))) (ja_c (jc_sh (je_var (i := 5) rfl (by first | exact Or.inl rfl | exact Or.inr (Or.inl rfl) | exact Or.inr (Or.inr rfl)))) ja_nil)))))) (ja_c (jc_sh (je_tup (ja_c (jc_sh je_str) (ja_c (jc_sh (je_var (i := 3) rfl (by first | exact Or.inl rfl | exact Or.inr (Or.inl rfl) | exact Or.inr (Or.inr rfl)))) (ja_c (jc_sh (je_var (i := 4) rfl (by first | exact Or.inl rfl | exact Or.inr (Or.inl rfl) | exact Or.inr (Or.inr rfl)))) ja_nil))))) ja_nil))) (je_bin op_sub os_sub (je_var (i := 2) rfl (by first | exact Or.inl rfl | exact Or.inr (Or.inl rfl) | exact Or.inr (Or.inr rfl))) je_int) (fun _ _ => rfl)))))
    jss_nil)
    (jss_cons (js_if (jt_cmp (op_eqA hr.units) os_eq (je_var (i := 2) rfl (by first | exact Or.inl rfl | exact Or.inr (Or.inl rfl) | exact Or.inr (Or.inr rfl))) je_int (nomark _))
    (jss_one (js_ret (jc_sh (je_tup (ja_c (jc_sh je_str) (ja_c (jc_sh (je_var (i := 3) rfl (by first | exact Or.inl rfl | exact Or.inr (Or.inl rfl) | exact Or.inr (Or.inr rfl)))) ja_nil))))))
    jss_nil)
    (jss_cons (js_if (jt_cmp (op_eqA hr.units) os_eq (je_var (i := 2) rfl (by first | exact Or.inl rfl | exact Or.inr (Or.inl rfl) | exact Or.inr (Or.inr rfl))) je_int (nomark _))
    (jss_one (js_ret (jc_sh (je_tup (ja_c (jc_sh je_str) (ja_c (jc_sh (je_cell (jc_call (ok__law_picked T) rfl (hr.mono (by decide)) (by rfl) T.g__law_picked T.F__law_picked.kp T.b__law_picked (ja_c (jc_lo (jl_var (i := 0) rfl (by first | exact Or.inl rfl | exact Or.inr (Or.inl rfl) | exact Or.inr (Or.inr rfl)))) (ja_c (jc_sh (je_cell (jc_dget hr.units (jl_var (i := 1) rfl (by first | exact Or.inl rfl | exact Or.inr (Or.inl rfl) | exact Or.inr (Or.inr rfl))) je_str (fun _ _ => rfl)))) (ja_c (jc_sh (je_bin op_addA os_add je_int (je_cell (jc_call (ok__law_some T) rfl (hr.mono (by decide)) (by rfl) T.g__law_some T.F__law_some.kp T.b__law_some (ja_c (jc_lo (jl_var (i := 0) rfl (by first | exact Or.inl rfl | exact Or.inr (Or.inl rfl) | exact Or.inr (Or.inr rfl)))) (ja_c (jc_sh je_int) (ja_c (jc_sh je_int) ja_nil))))))) ja_nil)))))) ja_nil))))))
    jss_nil)
    (jss_one (js_ret (jc_sh (je_ix (je_lst (ja_c (jc_sh (je_tup (ja_c (jc_sh je_str) (ja_c (jc_sh (je_var (i := 3) rfl (by first | exact Or.inl rfl | exact Or.inr (Or.inl rfl) | exact Or.inr (Or.inr rfl)))) ja_nil)))) (ja_c (jc_sh (je_tup (ja_c (jc_sh je_str) (ja_c (jc_sh (je_ix (je_m1 PySem.F.slot_str_split PySem.F.type_str_split mt_split ms_split (je_var (i := 3) rfl (by first | exact Or.inl rfl | exact Or.inr (Or.inl rfl) | exact Or.inr (Or.inr rfl))) je_str) je_int (fun _ _ => rfl))) ja_nil)))) (ja_c (jc_sh (je_tup (ja_c (jc_sh je_str) (ja_c (jc_sh (je_ix (je_m1 PySem.F.slot_str_split PySem.F.type_str_split mt_split ms_split (je_ix (je_cell (jc_dget hr.units (jl_var (i := 1) rfl (by first | exact Or.inl rfl | exact Or.inr (Or.inl rfl) | exact Or.inr (Or.inr rfl))) je_str (fun _ _ => rfl))) je_int (fun _ _ => rfl)) je_str) je_int (fun _ _ => rfl))) ja_nil)))) ja_nil)))) (je_cell (jc_call (ok__law_draw T) rfl (hr.mono (by decide)) (by rfl) T.g__law_draw T.F__law_draw.kp T.b__law_draw (ja_c (jc_lo (jl_var (i := 0) rfl (by first | exact Or.inl rfl | exact Or.inr (Or.inl rfl) | exact Or.inr (Or.inr rfl)))) (ja_c (jc_sh je_int) ja_nil)))) (fun _ _ => rfl))))))))))))))
theorem ok__law_dressed (T : Tx w K mg) : FnOk P w K mg base CX0 3 T.a__law_dressed T.d__law_dressed ["_law_deck_here", "_law_boxes_here", "_law_word"] (spF K 3 f__law_dressed) := by
  have sc := sc__law_dressed
  refine fn_J T.F__law_dressed sc rfl rfl (by decide) fun cdv A outer s H E hr => ?_
  exact (jss_cons (js_set (i := 3) sc.nd rfl (by first | exact Or.inl rfl | exact Or.inr rfl) (jc_sh (je_cell (jc_call (ok__law_draw T) rfl (hr.mono (by decide)) (by rfl) T.g__law_draw T.F__law_draw.kp T.b__law_draw (ja_c (jc_lo (jl_var (i := 0) rfl (by first | exact Or.inl rfl | exact Or.inr (Or.inl rfl) | exact Or.inr (Or.inr rfl)))) (ja_c (jc_sh je_int) ja_nil))))))
    (jss_cons (js_set (i := 4) sc.nd rfl (by first | exact Or.inl rfl | exact Or.inr rfl) (jc_sh (je_cell (jc_call (ok__law_one_of T) rfl (hr.mono (by decide)) (by rfl) T.g__law_one_of T.F__law_one_of.kp T.b__law_one_of (ja_c (jc_lo (jl_var (i := 0) rfl (by first | exact Or.inl rfl | exact Or.inr (Or.inl rfl) | exact Or.inr (Or.inr rfl)))) (ja_c (jc_sh (je_var (i := 1) rfl (by first | exact Or.inl rfl | exact Or.inr (Or.inl rfl) | exact Or.inr (Or.inr rfl)))) ja_nil))))))
    (jss_cons (js_set (i := 5) sc.nd rfl (by first | exact Or.inl rfl | exact Or.inr rfl) (jc_sh (je_cell (jc_call (ok__law_draw T) rfl (hr.mono (by decide)) (by rfl) T.g__law_draw T.F__law_draw.kp T.b__law_draw (ja_c (jc_lo (jl_var (i := 0) rfl (by first | exact Or.inl rfl | exact Or.inr (Or.inl rfl) | exact Or.inr (Or.inr rfl)))) (ja_c (jc_sh je_int) ja_nil))))))
    (jss_cons (js_if (PW.pt (jw_and (jt_cmp (op_eqA hr.units) os_eq (je_var (i := 3) rfl (by first | exact Or.inl rfl | exact Or.inr (Or.inl rfl) | exact Or.inr (Or.inr rfl))) je_int (nomark _)) (jw_and1 (jt_cmp op_inA os_in (je_ix (je_var (i := 2) rfl (by first | exact Or.inl rfl | exact Or.inr (Or.inl rfl) | exact Or.inr (Or.inr rfl))) je_int (fun _ _ => rfl)) (je_tup (ja_c (jc_sh je_str) (ja_c (jc_sh je_str) (ja_c (jc_sh je_str) (ja_c (jc_sh je_str) (ja_c (jc_sh je_str) (ja_c (jc_sh je_str) (ja_c (jc_sh je_str) ja_nil)))))))) (by rfl)))))
    (jss_one (js_ret (jc_sh (je_lst (ja_c (jc_sh (je_ix (je_lst (ja_c (jc_sh (je_tup (ja_c (jc_sh je_str) (ja_c (jc_sh (je_ix (je_var (i := 2) rfl (by first | exact Or.inl rfl | exact Or.inr (Or.inl rfl) | exact Or.inr (Or.inr rfl))) je_int (fun _ _ => rfl))) (ja_c (jc_sh (je_var (i := 5) rfl (by first | exact Or.inl rfl | exact Or.inr (Or.inl rfl) | exact Or.inr (Or.inr rfl)))) ja_nil))))) (ja_c (jc_sh (je_tup (ja_c (jc_sh je_str) (ja_c (jc_sh (je_ix (je_var (i := 2) rfl (by first | exact Or.inl rfl | exact Or.inr (Or.inl rfl) | exact Or.inr (Or.inr rfl))) je_int (fun _ _ => rfl))) (ja_c (jc_sh (je_var (i := 4) rfl (by first | exact Or.inl rfl | exact Or.inr (Or.inl rfl) | exact Or.inr (Or.inr rfl)))) ja_nil))))) (ja_c (jc_sh (je_tup (ja_c (jc_sh je_str) (ja_c (jc_sh (je_ix (je_var (i := 2) rfl (by first | exact Or.inl rfl | exact Or.inr (Or.inl rfl) | exact Or.inr (Or.inr rfl))) je_int (fun _ _ => rfl))) (ja_c (jc_sh (je_var (i := 4) rfl (by first | exact Or.inl rfl | exact Or.inr (Or.inl rfl) | exact Or.inr (Or.inr rfl)))) ja_nil))))) ja_nil)))) (je_bin op_mod os_mod (je_var (i := 5) rfl (by first | exact Or.inl rfl | exact Or.inr (Or.inl rfl) | exact Or.inr (Or.inr rfl))) je_int) (fun _ _ => rfl))) (ja_c (jc_sh (je_var (i := 2) rfl (by first | exact Or.inl rfl | exact Or.inr (Or.inl rfl) | exact Or.inr (Or.inr rfl)))) ja_nil))))))
    jss_nil)
    (jss_cons (js_if (PW.pt (jw_and (jt_cmp (op_eqA hr.units) os_eq (je_var (i := 3) rfl (by first | exact Or.inl rfl | exact Or.inr (Or.inl rfl) | exact Or.inr (Or.inr rfl))) je_int (nomark _)) (jw_and1 (jt_cmp (op_eqA hr.units) os_eq (je_ix (je_var (i := 2) rfl (by first | exact Or.inl rfl | exact Or.inr (Or.inl rfl) | exact Or.inr (Or.inr rfl))) je_int (fun _ _ => rfl)) je_str (nomark _)))))
    (jss_one (js_ret (jc_sh (je_lst (ja_c (jc_sh (je_tup (ja_c (jc_sh je_str) (ja_c (jc_sh (je_ix (je_lst (ja_c (jc_sh (je_var (i := 4) rfl (by first | exact Or.inl rfl | exact Or.inr (Or.inl rfl) | exact Or.inr (Or.inr rfl)))) (ja_c (jc_sh (je_bin op_addA os_add (je_bin op_addA os_add (je_ix (je_var (i := 2) rfl (by first | exact Or.inl rfl | exact Or.inr (Or.inl rfl) | exact Or.inr (Or.inr rfl))) je_int (fun _ _ => rfl)) je_str) (je_ix (je_var (i := 2) rfl (by first | exact Or.inl rfl | exact Or.inr (Or.inl rfl) | exact Or.inr (Or.inr rfl))) je_int (fun _ _ => rfl)))) ja_nil))) (je_bin op_mod os_mod (je_var (i := 5) rfl (by first | exact Or.inl rfl | exact Or.inr (Or.inl rfl) | exact Or.inr (Or.inr rfl))) je_int) (fun _ _ => rfl))) (ja_c (jc_sh (je_var (i := 4) rfl (by first | exact Or.inl rfl | exact Or.inr (Or.inl rfl) | exact Or.inr (Or.inr rfl)))) ja_nil))))) (ja_c (jc_sh (je_var (i := 2) rfl (by first | exact Or.inl rfl | exact Or.inr (Or.inl rfl) | exact Or.inr (Or.inr rfl)))) ja_nil))))))
    jss_nil)
    (jss_cons (js_if (PW.pt (jw_and (jt_cmp op_gtA os_ord (je_var (i := 3) rfl (by first | exact Or.inl rfl | exact Or.inr (Or.inl rfl) | exact Or.inr (Or.inr rfl))) je_int (nomark _)) (jw_and1 (jt_cmp op_inA os_in (je_ix (je_var (i := 2) rfl (by first | exact Or.inl rfl | exact Or.inr (Or.inl rfl) | exact Or.inr (Or.inr rfl))) je_int (fun _ _ => rfl)) (je_tup (ja_c (jc_sh je_str) (ja_c (jc_sh je_str) ja_nil))) (by rfl)))))
    (jss_one (js_ret (jc_sh (je_lst (ja_c (jc_sh (je_var (i := 2) rfl (by first | exact Or.inl rfl | exact Or.inr (Or.inl rfl) | exact Or.inr (Or.inr rfl)))) (ja_c (jc_sh (je_var (i := 2) rfl (by first | exact Or.inl rfl | exact Or.inr (Or.inl rfl) | exact Or.inr (Or.inr rfl)))) ja_nil))))))
    jss_nil)
    (jss_cons (js_if (jt_cmp (op_eqA hr.units) os_eq (je_var (i := 3) rfl (by first | exact Or.inl rfl | exact Or.inr (Or.inl rfl) | exact Or.inr (Or.inr rfl))) je_int (nomark _))
    (jss_one (js_ret (jc_sh (je_lst (ja_c (jc_sh (je_var (i := 2) rfl (by first | exact Or.inl rfl | exact Or.inr (Or.inl rfl) | exact Or.inr (Or.inr rfl)))) (ja_c (jc_sh (je_tup (ja_c (jc_sh je_str) (ja_c (jc_sh (je_var (i := 4) rfl (by first | exact Or.inl rfl | exact Or.inr (Or.inl rfl) | exact Or.inr (Or.inr rfl)))) (ja_c (jc_sh (je_var (i := 4) rfl (by first | exact Or.inl rfl | exact Or.inr (Or.inl rfl) | exact Or.inr (Or.inr rfl)))) ja_nil))))) ja_nil))))))
    jss_nil)
    (jss_cons (js_if (jt_cmp (op_eqA hr.units) os_eq (je_var (i := 3) rfl (by first | exact Or.inl rfl | exact Or.inr (Or.inl rfl) | exact Or.inr (Or.inr rfl))) je_int (nomark _))
    (jss_one (js_ret (jc_sh (je_lst (ja_c (jc_sh (je_var (i := 2) rfl (by first | exact Or.inl rfl | exact Or.inr (Or.inl rfl) | exact Or.inr (Or.inr rfl)))) (ja_c (jc_sh (je_ix (je_lst (ja_c (jc_sh (je_tup (ja_c (jc_sh je_str) (ja_c (jc_sh (je_var (i := 4) rfl (by first | exact Or.inl rfl | exact Or.inr (Or.inl rfl) | exact Or.inr (Or.inr rfl)))) (ja_c (jc_sh (je_cell (jc_call (ok__law_one_of T) rfl (hr.mono (by decide)) (by rfl) T.g__law_one_of T.F__law_one_of.kp T.b__law_one_of (ja_c (jc_lo (jl_var (i := 0) rfl (by first | exact Or.inl rfl | exact Or.inr (Or.inl rfl) | exact Or.inr (Or.inr rfl)))) (ja_c (jc_sh (je_var (i := 1) rfl (by first | exact Or.inl rfl | exact Or.inr (Or.inl rfl) | exact Or.inr (Or.inr rfl)))) ja_nil))))) ja_nil))))) (ja_c (jc_sh (je_tup (ja_c (jc_sh je_str) (ja_c (jc_sh (je_var (i := 4) rfl (by first | exact Or.inl rfl | exact Or.inr (Or.inl rfl) | exact Or.inr (Or.inr rfl)))) (ja_c (jc_sh (je_var (i := 5) rfl (by first | exact Or.inl rfl | exact Or.inr (Or.inl rfl) | exact Or.inr (Or.inr rfl)))) ja_nil))))) ja_nil))) (je_bin op_mod os_mod (je_var (i := 5) rfl (by first | exact Or.inl rfl | exact Or.inr (Or.inl rfl) | exact Or.inr (Or.inr rfl))) je_int) (fun _ _ => rfl))) ja_nil))))))
    jss_nil)
    (jss_one (js_ret (jc_sh (je_lst (ja_c (jc_sh (je_var (i := 2) rfl (by first | exact Or.inl rfl | exact Or.inr (Or.inl rfl) | exact Or.inr (Or.inr rfl)))) ja_nil)))))))))))))
theorem ok_G22 (T : Tx w K mg) : ∀ k : Nat, FnOk P w K mg base CX0 (3 + k) T.a__law_leading T.d__law_leading ["_law_deck_here", "_law_case", "_law_deep", "_law_loops"] (spF K 4 (f_G22 k 0)) ∧ FnOk P w K mg base CX0 (3 + k) T.a__law_grown T.d__law_grown ["_law_deck_here", "_law_case", "_law_deep", "_law_loops", "_law_most"] (spF K 5 (f_G22 k 1))
  | 0 => ⟨fn_bad rfl, fn_bad rfl⟩
  | k + 1 => by
    have ih := ok_G22 T k
    exact ⟨(by
      have sc := sc__law_leading
      refine fn_J T.F__law_leading sc rfl rfl (by decide) fun cdv A outer s H E hr => ?_
      exact (jss_cons (js_set (i := 4) sc.nd rfl (by first | exact Or.inl rfl | exact Or.inr rfl) (jc_sh (je_cell (jc_call (ok__law_draw T) rfl (hr.mono (Nat.le_trans (m := 3) (by decide) (Nat.le_add_right _ _))) (by rfl) T.g__law_draw T.F__law_draw.kp T.b__law_draw (ja_c (jc_lo (jl_var (i := 0) rfl (by first | exact Or.inl rfl | exact Or.inr (Or.inl rfl) | exact Or.inr (Or.inr rfl)))) (ja_c (jc_sh je_int) ja_nil))))))
    (jss_cons (js_if (PW.pt (jw_and (jt_cmp (op_eqA hr.units) os_eq (je_var (i := 4) rfl (by first | exact Or.inl rfl | exact Or.inr (Or.inl rfl) | exact Or.inr (Or.inr rfl))) je_int (nomark _)) (jw_and1 (jt_cmp op_gtA os_ord (je_var (i := 3) rfl (by first | exact Or.inl rfl | exact Or.inr (Or.inl rfl) | exact Or.inr (Or.inr rfl))) je_int (nomark _)))))
    (jss_one (js_ret (jc_sh (je_tup (ja_c (jc_sh je_str) (ja_c (jc_sh (je_bin op_addA os_add je_int (je_cell (jc_call (ok__law_draw T) rfl (hr.mono (Nat.le_trans (m := 3) (by decide) (Nat.le_add_right _ _))) (by rfl) T.g__law_draw T.F__law_draw.kp T.b__law_draw (ja_c (jc_lo (jl_var (i := 0) rfl (by first | exact Or.inl rfl | exact Or.inr (Or.inl rfl) | exact Or.inr (Or.inr rfl)))) (ja_c (jc_sh (je_var (i := 3) rfl (by first | exact Or.inl rfl | exact Or.inr (Or.inl rfl) | exact Or.inr (Or.inr rfl)))) ja_nil)))))) ja_nil))))))
    jss_nil)
    (jss_cons (js_if (jt_cmp (op_eqA hr.units) os_eq (je_var (i := 4) rfl (by first | exact Or.inl rfl | exact Or.inr (Or.inl rfl) | exact Or.inr (Or.inr rfl))) je_int (nomark _))
    (jss_one (js_ret (jc_sh (je_tup (ja_c (jc_sh (je_ix (je_lst (ja_c (jc_sh je_str) (ja_c (jc_sh je_str) (ja_c (jc_sh je_str) (ja_c (jc_sh je_str) ja_nil))))) (je_cell (jc_call (ok__law_draw T) rfl (hr.mono (Nat.le_trans (m := 3) (by decide) (Nat.le_add_right _ _))) (by rfl) T.g__law_draw T.F__law_draw.kp T.b__law_draw (ja_c (jc_lo (jl_var (i := 0) rfl (by first | exact Or.inl rfl | exact Or.inr (Or.inl rfl) | exact Or.inr (Or.inr rfl)))) (ja_c (jc_sh je_int) ja_nil)))) (fun _ _ => rfl))) (ja_c (jc_sh (je_cell (jc_call (ok__law_one_of T) rfl (hr.mono (Nat.le_trans (m := 3) (by decide) (Nat.le_add_right _ _))) (by rfl) T.g__law_one_of T.F__law_one_of.kp T.b__law_one_of (ja_c (jc_lo (jl_var (i := 0) rfl (by first | exact Or.inl rfl | exact Or.inr (Or.inl rfl) | exact Or.inr (Or.inr rfl)))) (ja_c (jc_sh (je_cell (jc_dget hr.units (jl_var (i := 1) rfl (by first | exact Or.inl rfl | exact Or.inr (Or.inl rfl) | exact Or.inr (Or.inr rfl))) je_str (fun _ _ => rfl)))) ja_nil))))) ja_nil))))))
    jss_nil)
    (jss_cons (js_if (PW.pt (jw_and (jt_cmp (op_eqA hr.units) os_eq (je_var (i := 4) rfl (by first | exact Or.inl rfl | exact Or.inr (Or.inl rfl) | exact Or.inr (Or.inr rfl))) je_int (nomark _)) (jw_and1 (jt_cmp (op_eqA hr.units) os_eq (je_cell (jc_call (ok__law_draw T) rfl (hr.mono (Nat.le_trans (m := 3) (by decide) (Nat.le_add_right _ _))) (by rfl) T.g__law_draw T.F__law_draw.kp T.b__law_draw (ja_c (jc_lo (jl_var (i := 0) rfl (by first | exact Or.inl rfl | exact Or.inr (Or.inl rfl) | exact Or.inr (Or.inr rfl)))) (ja_c (jc_sh je_int) ja_nil)))) je_int (nomark _)))))
    (jss_one (js_ret (jc_sh (je_tup (ja_c (jc_sh je_str) ja_nil)))))
    jss_nil)
    (jss_cons (js_if (PW.pt (jw_and (jt_cmp op_ltA os_ord (je_var (i := 4) rfl (by first | exact Or.inl rfl | exact Or.inr (Or.inl rfl) | exact Or.inr (Or.inr rfl))) je_int (nomark _)) (jw_and1 (jt_cmpC (op_neA hr.units) os_ne (jc_lo (jl_cell (jc_dget hr.units (jl_var (i := 1) rfl (by first | exact Or.inl rfl | exact Or.inr (Or.inl rfl) | exact Or.inr (Or.inr rfl))) je_str (fun _ _ => rfl)))) (jc_sh (je_lst ja_nil)) (nomark _)))))
    (jss_cons (js_asg (jc_sh (je_cell (jc_call (ok__law_one_of T) rfl (hr.mono (Nat.le_trans (m := 3) (by decide) (Nat.le_add_right _ _))) (by rfl) T.g__law_one_of T.F__law_one_of.kp T.b__law_one_of (ja_c (jc_lo (jl_var (i := 0) rfl (by first | exact Or.inl rfl | exact Or.inr (Or.inl rfl) | exact Or.inr (Or.inr rfl)))) (ja_c (jc_lo (jl_cell (jc_dget hr.units (jl_var (i := 1) rfl (by first | exact Or.inl rfl | exact Or.inr (Or.inl rfl) | exact Or.inr (Or.inr rfl))) je_str (fun _ _ => rfl)))) ja_nil))))) (jg_tup rfl (jgs_cons (jg_name (i := 10) sc.nd rfl (by first | exact Or.inl rfl | exact Or.inr rfl)) (jgs_cons (jg_name (i := 11) sc.nd rfl (by first | exact Or.inl rfl | exact Or.inr rfl)) (jgs_cons (jg_name (i := 12) sc.nd rfl (by first | exact Or.inl rfl | exact Or.inr rfl)) jgs_nil)))))
    (jss_cons (js_set (i := 5) sc.nd rfl (by first | exact Or.inl rfl | exact Or.inr rfl) (jc_sh (je_cell (jc_call (ok__law_picked T) rfl (hr.mono (Nat.le_trans (m := 3) (by decide) (Nat.le_add_right _ _))) (by rfl) T.g__law_picked T.F__law_picked.kp T.b__law_picked (ja_c (jc_lo (jl_var (i := 0) rfl (by first | exact Or.inl rfl | exact Or.inr (Or.inl rfl) | exact Or.inr (Or.inr rfl)))) (ja_c (jc_sh (je_cell (jc_dget hr.units (jl_var (i := 1) rfl (by first | exact Or.inl rfl | exact Or.inr (Or.inl rfl) | exact Or.inr (Or.inr rfl))) je_str (fun _ _ => rfl)))) (ja_c (jc_sh (je_callB call_lenA cs_len (by rfl) T.z_len (by decide +kernel) (ja_c (jc_sh (je_var (i := 11) rfl (by first | exact Or.inl rfl | exact Or.inr (Or.inl rfl) | exact Or.inr (Or.inr rfl)))) ja_nil))) ja_nil)))))))
    (jss_cons (js_set (i := 6) sc.nd rfl (by first | exact Or.inl rfl | exact Or.inr rfl) (jc_sh (je_cell (jc_call (ok__law_picked T) rfl (hr.mono (Nat.le_trans (m := 3) (by decide) (Nat.le_add_right _ _))) (by rfl) T.g__law_picked T.F__law_picked.kp T.b__law_picked (ja_c (jc_lo (jl_var (i := 0) rfl (by first | exact Or.inl rfl | exact Or.inr (Or.inl rfl) | exact Or.inr (Or.inr rfl)))) (ja_c (jc_sh (je_cell (jc_dget hr.units (jl_var (i := 1) rfl (by first | exact Or.inl rfl | exact Or.inr (Or.inl rfl) | exact Or.inr (Or.inr rfl))) je_str (fun _ _ => rfl)))) (ja_c (jc_sh (je_callB call_lenA cs_len (by rfl) T.z_len (by decide +kernel) (ja_c (jc_sh (je_var (i := 12) rfl (by first | exact Or.inl rfl | exact Or.inr (Or.inl rfl) | exact Or.inr (Or.inr rfl)))) ja_nil))) ja_nil)))))))
    (jss_one (js_if (PW.pt (jw_and (jt_cmp (op_eqA hr.units) os_eq (je_callB call_lenA cs_len (by rfl) T.z_len (by decide +kernel) (ja_c (jc_sh (je_var (i := 5) rfl (by first | exact Or.inl rfl | exact Or.inr (Or.inl rfl) | exact Or.inr (Or.inr rfl)))) ja_nil)) (je_callB call_lenA cs_len (by rfl) T.z_len (by decide +kernel) (ja_c (jc_sh (je_var (i := 11) rfl (by first | exact Or.inl rfl | exact Or.inr (Or.inl rfl) | exact Or.inr (Or.inr rfl)))) ja_nil)) (nomark _)) (jw_and1 (jt_cmp (op_eqA hr.units) os_eq (je_callB call_lenA cs_len (by rfl) T.z_len (by decide +kernel) (ja_c (jc_sh (je_var (i := 6) rfl (by first | exact Or.inl rfl | exact Or.inr (Or.inl rfl) | exact Or.inr (Or.inr rfl)))) ja_nil)) (je_callB call_lenA cs_len (by rfl) T.z_len (by decide +kernel) (ja_c (jc_sh (je_var (i := 12) rfl (by first | exact Or.inl rfl | exact Or.inr (Or.inl rfl) | exact Or.inr (Or.inr rfl)))) ja_nil)) (nomark _)))))
    (jss_one (js_ret (jc_sh (je_tup (ja_c (jc_sh je_str) (ja_c (jc_sh (je_var (i := 10) rfl (by first | exact Or.inl rfl | exact Or.inr (Or.inl rfl) | exact Or.inr (Or.inr rfl)))) (ja_c (jc_sh (je_var (i := 5) rfl (by first | exact Or.inl rfl | exact Or.inr (Or.inl rfl) | exact Or.inr (Or.inr rfl)))) (ja_c (jc_sh (je_var (i := 6) rfl (by first | exact Or.inl rfl | exact Or.inr (Or.inl rfl) | exact Or.inr (Or.inr rfl)))) ja_nil))))))))
    jss_nil)))))
    jss_nil)
    (jss_cons (js_if (PW.pt (jw_and (jt_cmp (op_eqA hr.units) os_eq (je_var (i := 4) rfl (by first | exact Or.inl rfl | exact Or.inr (Or.inl rfl) | exact Or.inr (Or.inr rfl))) je_int (nomark _)) (jw_and1 (jt_cmp op_gtA os_ord (je_var (i := 2) rfl (by first | exact Or.inl rfl | exact Or.inr (Or.inl rfl) | exact Or.inr (Or.inr rfl))) je_int (nomark _)))))
    (jss_cons (js_set (i := 7) sc.nd rfl (by first | exact Or.inl rfl | exact Or.inr rfl) (jc_sh (je_cell (jc_call ih.2 rfl hr (by rfl) T.g__law_grown T.F__law_grown.kp T.b__law_grown (ja_c (jc_lo (jl_var (i := 0) rfl (by first | exact Or.inl rfl | exact Or.inr (Or.inl rfl) | exact Or.inr (Or.inr rfl)))) (ja_c (jc_lo (jl_var (i := 1) rfl (by first | exact Or.inl rfl | exact Or.inr (Or.inl rfl) | exact Or.inr (Or.inr rfl)))) (ja_c (jc_sh (je_bin op_sub os_sub (je_var (i := 2) rfl (by first | exact Or.inl rfl | exact Or.inr (Or.inl rfl) | exact Or.inr (Or.inr rfl))) je_int)) (ja_c (jc_sh (je_bin op_addA os_add (je_var (i := 3) rfl (by first | exact Or.inl rfl | exact Or.inr (Or.inl rfl) | exact Or.inr (Or.inr rfl))) je_int)) (ja_c (jc_sh je_int) ja_nil)))))))))
    (jss_cons (js_set (i := 8) sc.nd rfl (by first | exact Or.inl rfl | exact Or.inr rfl) (jc_sh (je_callTy call_int1 cs_int (by rfl) T.z_int (by decide +kernel) (ja_c (jc_sh (je_and (je_cmp op_gtA os_ord (je_cell (jc_call (ok__law_draw T) rfl (hr.mono (Nat.le_trans (m := 3) (by decide) (Nat.le_add_right _ _))) (by rfl) T.g__law_draw T.F__law_draw.kp T.b__law_draw (ja_c (jc_lo (jl_var (i := 0) rfl (by first | exact Or.inl rfl | exact Or.inr (Or.inl rfl) | exact Or.inr (Or.inr rfl)))) (ja_c (jc_sh je_int) ja_nil)))) je_int (nomark _)) (je_one (je_cmp op_gtA os_ord (je_cell (jc_dget hr.units (jl_var (i := 1) rfl (by first | exact Or.inl rfl | exact Or.inr (Or.inl rfl) | exact Or.inr (Or.inr rfl))) je_str (fun _ _ => rfl))) je_int (nomark _))))) ja_nil))))
    (jss_cons (js_dput hr.units (jl_var (i := 1) rfl (by first | exact Or.inl rfl | exact Or.inr (Or.inl rfl) | exact Or.inr (Or.inr rfl))) je_str (jc_sh (je_bin op_sub os_sub (je_cell (jc_dget hr.units (jl_var (i := 1) rfl (by first | exact Or.inl rfl | exact Or.inr (Or.inl rfl) | exact Or.inr (Or.inr rfl))) je_str (fun _ _ => rfl))) (je_var (i := 8) rfl (by first | exact Or.inl rfl | exact Or.inr (Or.inl rfl) | exact Or.inr (Or.inr rfl))))))
    (jss_one (js_ret (jc_sh (je_tup (ja_c (jc_sh je_str) (ja_c (jc_sh (je_bin op_addA os_add (je_var (i := 7) rfl (by first | exact Or.inl rfl | exact Or.inr (Or.inl rfl) | exact Or.inr (Or.inr rfl))) (je_bin op_repO os_mulO (je_tup (ja_c (jc_sh (je_tup (ja_c (jc_sh je_str) (ja_c (jc_sh je_int) ja_nil)))) ja_nil)) (je_var (i := 8) rfl (by first | exact Or.inl rfl | exact Or.inr (Or.inl rfl) | exact Or.inr (Or.inr rfl)))))) ja_nil)))))))))
    jss_nil)
    (jss_cons (js_if (jt_cmp op_gtA os_ord (je_var (i := 2) rfl (by first | exact Or.inl rfl | exact Or.inr (Or.inl rfl) | exact Or.inr (Or.inr rfl))) je_int (nomark _))
    (jss_cons (js_set (i := 9) sc.nd rfl (by first | exact Or.inl rfl | exact Or.inr rfl) (jc_sh (je_bin op_addA os_add je_int (je_cell (jc_call (ok__law_some T) rfl (hr.mono (Nat.le_trans (m := 3) (by decide) (Nat.le_add_right _ _))) (by rfl) T.g__law_some T.F__law_some.kp T.b__law_some (ja_c (jc_lo (jl_var (i := 0) rfl (by first | exact Or.inl rfl | exact Or.inr (Or.inl rfl) | exact Or.inr (Or.inr rfl)))) (ja_c (jc_sh je_int) (ja_c (jc_sh je_int) ja_nil))))))))
    (jss_one (js_ret (jc_sh (je_tup (ja_c (jc_sh je_str) (ja_c (jc_sh (je_callTy call_tuple_of cs_tuple (by rfl) T.z_tuple (by decide +kernel) (ja_c (jc_sh (je_fr (jo_comp (own := [("_law_k", 13)]) (by decide) rfl sc.nd (ji_range1 (by rfl) T.z_range (je_var (i := 9) rfl (by first | exact Or.inl rfl | exact Or.inr (Or.inl rfl) | exact Or.inr (Or.inr rfl)))) (blkOk_by (N := N__law_leading) (sc := defScope s__law_leading) (by decide +kernel)) (fun _ _ _ _ _ => (jg_name (i := 13) sc.nd rfl (by first | exact Or.inl rfl | exact Or.inr rfl))) (fun _ _ _ _ _ => jts_nil) (fun _ _ _ _ _ => (je_cell (jc_call ih.2 rfl hr (by rfl) T.g__law_grown T.F__law_grown.kp T.b__law_grown (ja_c (jc_lo (jl_var (i := 0) rfl (by first | exact Or.inl rfl | exact Or.inr (Or.inl rfl) | exact Or.inr (Or.inr rfl)))) (ja_c (jc_lo (jl_var (i := 1) rfl (by first | exact Or.inl rfl | exact Or.inr (Or.inl rfl) | exact Or.inr (Or.inr rfl)))) (ja_c (jc_sh (je_bin op_sub os_sub (je_var (i := 2) rfl (by first | exact Or.inl rfl | exact Or.inr (Or.inl rfl) | exact Or.inr (Or.inr rfl))) je_int)) (ja_c (jc_sh (je_var (i := 3) rfl (by first | exact Or.inl rfl | exact Or.inr (Or.inl rfl) | exact Or.inr (Or.inr rfl)))) (ja_c (jc_sh je_int) ja_nil))))))))))) ja_nil))) ja_nil)))))))
    jss_nil)
    (jss_one (js_ret (jc_sh (je_tup (ja_c (jc_sh je_str) (ja_c (jc_sh (je_cell (jc_call (ok__law_one_of T) rfl (hr.mono (Nat.le_trans (m := 3) (by decide) (Nat.le_add_right _ _))) (by rfl) T.g__law_one_of T.F__law_one_of.kp T.b__law_one_of (ja_c (jc_lo (jl_var (i := 0) rfl (by first | exact Or.inl rfl | exact Or.inr (Or.inl rfl) | exact Or.inr (Or.inr rfl)))) (ja_c (jc_sh (je_cell (jc_dget hr.units (jl_var (i := 1) rfl (by first | exact Or.inl rfl | exact Or.inr (Or.inl rfl) | exact Or.inr (Or.inr rfl))) je_str (fun _ _ => rfl)))) ja_nil))))) ja_nil)))))))))))))), (by
      have sc := sc__law_grown
      refine fn_J T.F__law_grown sc rfl rfl (by decide) fun cdv A outer s H E hr => ?_
      exact (jss_cons (js_set (i := 5) sc.nd rfl (by first | exact Or.inl rfl | exact Or.inr rfl) (jc_lo (jl_new (jo_lst ja_nil))))
    (jss_cons (js_for PassesOwn.never rfl (ji_range1 (by rfl) T.z_range (je_cell (jc_call (ok__law_draw T) rfl (hr.mono (Nat.le_trans (m := 3) (by decide) (Nat.le_add_right _ _))) (by rfl) T.g__law_draw T.F__law_draw.kp T.b__law_draw (ja_c (jc_lo (jl_var (i := 0) rfl (by first | exact Or.inl rfl | exact Or.inr (Or.inl rfl) | exact Or.inr (Or.inr rfl)))) (ja_c (jc_sh (je_bin op_addA os_add (je_var (i := 4) rfl (by first | exact Or.inl rfl | exact Or.inr (Or.inl rfl) | exact Or.inr (Or.inr rfl))) je_int)) ja_nil))))) (jg_name (i := 6) sc.nd rfl (by first | exact Or.inl rfl | exact Or.inr rfl))
    (jss_one (js_if (jt_cmp op_gtA os_ord (je_cell (jc_dget hr.units (jl_var (i := 1) rfl (by first | exact Or.inl rfl | exact Or.inr (Or.inl rfl) | exact Or.inr (Or.inr rfl))) je_str (fun _ _ => rfl))) je_int (nomark _))
    (jss_cons (js_dput hr.units (jl_var (i := 1) rfl (by first | exact Or.inl rfl | exact Or.inr (Or.inl rfl) | exact Or.inr (Or.inr rfl))) je_str (jc_sh (je_bin op_sub os_sub (je_cell (jc_dget hr.units (jl_var (i := 1) rfl (by first | exact Or.inl rfl | exact Or.inr (Or.inl rfl) | exact Or.inr (Or.inr rfl))) je_str (fun _ _ => rfl))) je_int)))
    (jss_cons (js_set (i := 7) sc.nd rfl (by first | exact Or.inl rfl | exact Or.inr rfl) (jc_sh (je_cell (jc_call (ok__law_plain T) rfl (hr.mono (Nat.le_trans (m := 3) (by decide) (Nat.le_add_right _ _))) (by rfl) T.g__law_plain T.F__law_plain.kp T.b__law_plain (ja_c (jc_lo (jl_var (i := 0) rfl (by first | exact Or.inl rfl | exact Or.inr (Or.inl rfl) | exact Or.inr (Or.inr rfl)))) (ja_c (jc_lo (jl_var (i := 1) rfl (by first | exact Or.inl rfl | exact Or.inr (Or.inl rfl) | exact Or.inr (Or.inr rfl)))) ja_nil))))))
    (jss_cons (js_if (jt_cmp (op_eqA hr.units) os_eq (je_cell (jc_call (ok__law_draw T) rfl (hr.mono (Nat.le_trans (m := 3) (by decide) (Nat.le_add_right _ _))) (by rfl) T.g__law_draw T.F__law_draw.kp T.b__law_draw (ja_c (jc_lo (jl_var (i := 0) rfl (by first | exact Or.inl rfl | exact Or.inr (Or.inl rfl) | exact Or.inr (Or.inr rfl)))) (ja_c (jc_sh je_int) ja_nil)))) je_int (nomark _))
    (jss_one (js_set (i := 7) sc.nd rfl (by first | exact Or.inl rfl | exact Or.inr rfl) (jc_sh (je_cell (jc_call ih.1 rfl hr (by rfl) T.g__law_leading T.F__law_leading.kp T.b__law_leading (ja_c (jc_lo (jl_var (i := 0) rfl (by first | exact Or.inl rfl | exact Or.inr (Or.inl rfl) | exact Or.inr (Or.inr rfl)))) (ja_c (jc_lo (jl_var (i := 1) rfl (by first | exact Or.inl rfl | exact Or.inr (Or.inl rfl) | exact Or.inr (Or.inr rfl)))) (ja_c (jc_sh (je_var (i := 2) rfl (by first | exact Or.inl rfl | exact Or.inr (Or.inl rfl) | exact Or.inr (Or.inr rfl)))) (ja_c (jc_sh (je_var (i := 3) rfl (by first | exact Or.inl rfl | exact Or.inr (Or.inl rfl) | exact Or.inr (Or.inr rfl)))) ja_nil)))))))))
    jss_nil)
    (jss_one (js_ext (jl_var (i := 5) rfl (by first | exact Or.inl rfl | exact Or.inr (Or.inl rfl) | exact Or.inr (Or.inr rfl))) (jc_sh (je_cell (jc_call (ok__law_dressed T) rfl (hr.mono (Nat.le_trans (m := 3) (by decide) (Nat.le_add_right _ _))) (by rfl) T.g__law_dressed T.F__law_dressed.kp T.b__law_dressed (ja_c (jc_lo (jl_var (i := 0) rfl (by first | exact Or.inl rfl | exact Or.inr (Or.inl rfl) | exact Or.inr (Or.inr rfl)))) (ja_c (jc_sh (je_cell (jc_dget hr.units (jl_var (i := 1) rfl (by first | exact Or.inl rfl | exact Or.inr (Or.inl rfl) | exact Or.inr (Or.inr rfl))) je_str (fun _ _ => rfl)))) (ja_c (jc_sh (je_var (i := 7) rfl (by first | exact Or.inl rfl | exact Or.inr (Or.inl rfl) | exact Or.inr (Or.inr rfl)))) ja_nil)))))) (PE0 := (pe_bm PySem.F.plainAttrs_list PySem.F.slot_list_extend PySem.F.type_list_extend mt_extA (jl_var (i := 5) rfl (by first | exact Or.inl rfl | exact Or.inr (Or.inl rfl) | exact Or.inr (Or.inr rfl))) (pa_cons (jc_sh (je_cell (jc_call (ok__law_dressed T) rfl (hr.mono (Nat.le_trans (m := 3) (by decide) (Nat.le_add_right _ _))) (by rfl) T.g__law_dressed T.F__law_dressed.kp T.b__law_dressed (ja_c (jc_lo (jl_var (i := 0) rfl (by first | exact Or.inl rfl | exact Or.inr (Or.inl rfl) | exact Or.inr (Or.inr rfl)))) (ja_c (jc_sh (je_cell (jc_dget hr.units (jl_var (i := 1) rfl (by first | exact Or.inl rfl | exact Or.inr (Or.inl rfl) | exact Or.inr (Or.inr rfl))) je_str (fun _ _ => rfl)))) (ja_c (jc_sh (je_var (i := 7) rfl (by first | exact Or.inl rfl | exact Or.inr (Or.inl rfl) | exact Or.inr (Or.inr rfl)))) ja_nil)))))) pa_nil))))))))
    jss_nil)))
    (jss_one (js_ret (jc_sh (je_tupOf (by rfl) T.z_tuple (by decide +kernel) (jc_lo (jl_var (i := 5) rfl (by first | exact Or.inl rfl | exact Or.inr (Or.inl rfl) | exact Or.inr (Or.inr rfl)))))))))))⟩
theorem ok__law_program (T : Tx w K mg) : FnOk P w K mg base CX0 18 T.a__law_program T.d__law_program ["_law_deck_here", "_law_names_here", "_law_many", "_law_most"] (spF K 4 f__law_program) := by
  have sc := sc__law_program
  refine fn_J T.F__law_program sc rfl rfl (by decide) fun cdv A outer s H E hr => ?_
  exact (jss_cons (js_set (i := 4) sc.nd rfl (by first | exact Or.inl rfl | exact Or.inr rfl) (jc_sh (je_cell (jc_call (ok__law_boxes T) rfl (hr.mono (by decide)) (by rfl) T.g__law_boxes T.F__law_boxes.kp T.b__law_boxes (ja_c (jc_lo (jl_var (i := 0) rfl (by first | exact Or.inl rfl | exact Or.inr (Or.inl rfl) | exact Or.inr (Or.inr rfl)))) (ja_c (jc_sh (je_var (i := 1) rfl (by first | exact Or.inl rfl | exact Or.inr (Or.inl rfl) | exact Or.inr (Or.inr rfl)))) ja_nil))))))
    (jss_cons (js_set (i := 5) sc.nd rfl (by first | exact Or.inl rfl | exact Or.inr rfl) (jc_lo (jl_disp (.cons je_str (jc_sh (je_var (i := 4) rfl (by first | exact Or.inl rfl | exact Or.inr (Or.inl rfl) | exact Or.inr (Or.inr rfl)))) (.cons je_str (jc_sh (je_bin op_addA os_add (je_slice (je_var (i := 1) rfl (by first | exact Or.inl rfl | exact Or.inr (Or.inl rfl) | exact Or.inr (Or.inr rfl))) (jp_some je_int) (jp_some je_int)) (je_slice (je_var (i := 1) rfl (by first | exact Or.inl rfl | exact Or.inr (Or.inl rfl) | exact Or.inr (Or.inr rfl))) jp_none (jp_some je_int)))) (.cons je_str (jc_sh (je_slice (je_var (i := 1) rfl (by first | exact Or.inl rfl | exact Or.inr (Or.inl rfl) | exact Or.inr (Or.inr rfl))) (jp_some je_int) (jp_some je_int))) (.cons je_str (jc_lo (jl_new (jo_lst ja_nil))) (.cons je_str (jc_sh je_int) .nil))))) (by simp) (by decide))))
    (jss_cons (js_set (i := 6) sc.nd rfl (by first | exact Or.inl rfl | exact Or.inr rfl) (jc_lo (jl_new (jo_lst ja_nil))))
    (jss_cons (js_for PassesOwn.never rfl (ji_range1 (by rfl) T.z_range (je_var (i := 2) rfl (by first | exact Or.inl rfl | exact Or.inr (Or.inl rfl) | exact Or.inr (Or.inr rfl)))) (jg_name (i := 7) sc.nd rfl (by first | exact Or.inl rfl | exact Or.inr rfl))
    (jss_cons (js_set (i := 8) sc.nd rfl (by first | exact Or.inl rfl | exact Or.inr rfl) (jc_sh (je_cell (jc_call (ok__law_picked T) rfl (hr.mono (by decide)) (by rfl) T.g__law_picked T.F__law_picked.kp T.b__law_picked (ja_c (jc_lo (jl_var (i := 0) rfl (by first | exact Or.inl rfl | exact Or.inr (Or.inl rfl) | exact Or.inr (Or.inr rfl)))) (ja_c (jc_sh (je_var (i := 4) rfl (by first | exact Or.inl rfl | exact Or.inr (Or.inl rfl) | exact Or.inr (Or.inr rfl)))) (ja_c (jc_sh (je_cell (jc_call (ok__law_some T) rfl (hr.mono (by decide)) (by rfl) T.g__law_some T.F__law_some.kp T.b__law_some (ja_c (jc_lo (jl_var (i := 0) rfl (by first | exact Or.inl rfl | exact Or.inr (Or.inl rfl) | exact Or.inr (Or.inr rfl)))) (ja_c (jc_sh je_int) (ja_c (jc_sh je_int) ja_nil)))))) ja_nil)))))))
    (jss_cons (js_set (i := 9) sc.nd rfl (by first | exact Or.inl rfl | exact Or.inr rfl) (jc_sh (je_cell (jc_call (ok__law_picked T) rfl (hr.mono (by decide)) (by rfl) T.g__law_picked T.F__law_picked.kp T.b__law_picked (ja_c (jc_lo (jl_var (i := 0) rfl (by first | exact Or.inl rfl | exact Or.inr (Or.inl rfl) | exact Or.inr (Or.inr rfl)))) (ja_c (jc_sh (je_var (i := 4) rfl (by first | exact Or.inl rfl | exact Or.inr (Or.inl rfl) | exact Or.inr (Or.inr rfl)))) (ja_c (jc_sh (je_cell (jc_call (ok__law_some T) rfl (hr.mono (by decide)) (by rfl) T.g__law_some T.F__law_some.kp T.b__law_some (ja_c (jc_lo (jl_var (i := 0) rfl (by first | exact Or.inl rfl | exact Or.inr (Or.inl rfl) | exact Or.inr (Or.inr rfl)))) (ja_c (jc_sh je_int) (ja_c (jc_sh je_int) ja_nil)))))) ja_nil)))))))
    (jss_cons (js_dput hr.units (jl_var (i := 5) rfl (by first | exact Or.inl rfl | exact Or.inr (Or.inl rfl) | exact Or.inr (Or.inr rfl))) je_str (jc_sh (je_ix (je_lst (ja_c (jc_sh je_int) (ja_c (jc_sh je_int) ja_nil))) (je_callTy call_int1 cs_int (by rfl) T.z_int (by decide +kernel) (ja_c (jc_sh (je_cmp op_gtA os_ord (je_var (i := 2) rfl (by first | exact Or.inl rfl | exact Or.inr (Or.inl rfl) | exact Or.inr (Or.inr rfl))) je_int (nomark _))) ja_nil)) (fun _ _ => rfl))))
    (jss_cons (js_app (jl_var (i := 6) rfl (by first | exact Or.inl rfl | exact Or.inr (Or.inl rfl) | exact Or.inr (Or.inr rfl))) (jc_sh (je_tup (ja_c (jc_sh (je_ix (je_var (i := 1) rfl (by first | exact Or.inl rfl | exact Or.inr (Or.inl rfl) | exact Or.inr (Or.inr rfl))) (je_bin op_addA os_add je_int (je_var (i := 7) rfl (by first | exact Or.inl rfl | exact Or.inr (Or.inl rfl) | exact Or.inr (Or.inr rfl)))) (fun _ _ => rfl))) (ja_c (jc_sh (je_var (i := 8) rfl (by first | exact Or.inl rfl | exact Or.inr (Or.inl rfl) | exact Or.inr (Or.inr rfl)))) (ja_c (jc_sh (je_var (i := 9) rfl (by first | exact Or.inl rfl | exact Or.inr (Or.inl rfl) | exact Or.inr (Or.inr rfl)))) (ja_c (jc_sh (je_cell (jc_call ((ok_G22 T 14).2) rfl (hr.mono (by decide)) (by rfl) T.g__law_grown T.F__law_grown.kp T.b__law_grown (ja_c (jc_lo (jl_var (i := 0) rfl (by first | exact Or.inl rfl | exact Or.inr (Or.inl rfl) | exact Or.inr (Or.inr rfl)))) (ja_c (jc_lo (jl_var (i := 5) rfl (by first | exact Or.inl rfl | exact Or.inr (Or.inl rfl) | exact Or.inr (Or.inr rfl)))) (ja_c (jc_sh je_int) (ja_c (jc_sh je_int) (ja_c (jc_sh je_int) ja_nil)))))))) ja_nil)))))) (PE0 := (pe_bm PySem.F.plainAttrs_list PySem.F.slot_list_append PySem.F.type_list_append mt_append (jl_var (i := 6) rfl (by first | exact Or.inl rfl | exact Or.inr (Or.inl rfl) | exact Or.inr (Or.inr rfl))) (pa_cons (jc_sh (je_tup (ja_c (jc_sh (je_ix (je_var (i := 1) rfl (by first | exact Or.inl rfl | exact Or.inr (Or.inl rfl) | exact Or.inr (Or.inr rfl))) (je_bin op_addA os_add je_int (je_var (i := 7) rfl (by first | exact Or.inl rfl | exact Or.inr (Or.inl rfl) | exact Or.inr (Or.inr rfl)))) (fun _ _ => rfl))) (ja_c (jc_sh (je_var (i := 8) rfl (by first | exact Or.inl rfl | exact Or.inr (Or.inl rfl) | exact Or.inr (Or.inr rfl)))) (ja_c (jc_sh (je_var (i := 9) rfl (by first | exact Or.inl rfl | exact Or.inr (Or.inl rfl) | exact Or.inr (Or.inr rfl)))) (ja_c (jc_sh (je_cell (jc_call ((ok_G22 T 14).2) rfl (hr.mono (by decide)) (by rfl) T.g__law_grown T.F__law_grown.kp T.b__law_grown (ja_c (jc_lo (jl_var (i := 0) rfl (by first | exact Or.inl rfl | exact Or.inr (Or.inl rfl) | exact Or.inr (Or.inr rfl)))) (ja_c (jc_lo (jl_var (i := 5) rfl (by first | exact Or.inl rfl | exact Or.inr (Or.inl rfl) | exact Or.inr (Or.inr rfl)))) (ja_c (jc_sh je_int) (ja_c (jc_sh je_int) (ja_c (jc_sh je_int) ja_nil)))))))) ja_nil)))))) pa_nil))))
    (jss_one (js_app (jl_cell (jc_dget hr.units (jl_var (i := 5) rfl (by first | exact Or.inl rfl | exact Or.inr (Or.inl rfl) | exact Or.inr (Or.inr rfl))) je_str (fun _ _ => rfl))) (jc_sh (je_slice (je_cell (jc_ix (jc_lo (jl_var (i := 6) rfl (by first | exact Or.inl rfl | exact Or.inr (Or.inl rfl) | exact Or.inr (Or.inr rfl)))) (je_neg je_int) (fun _ _ => rfl))) jp_none (jp_some je_int))) (PE0 := (pe_bm PySem.F.plainAttrs_list PySem.F.slot_list_append PySem.F.type_list_append mt_append (jl_cell (jc_dget hr.units (jl_var (i := 5) rfl (by first | exact Or.inl rfl | exact Or.inr (Or.inl rfl) | exact Or.inr (Or.inr rfl))) je_str (fun _ _ => rfl))) (pa_cons (jc_sh (je_slice (je_cell (jc_ix (jc_lo (jl_var (i := 6) rfl (by first | exact Or.inl rfl | exact Or.inr (Or.inl rfl) | exact Or.inr (Or.inr rfl)))) (je_neg je_int) (fun _ _ => rfl))) jp_none (jp_some je_int))) pa_nil))))))))))
    (jss_cons (js_dput hr.units (jl_var (i := 5) rfl (by first | exact Or.inl rfl | exact Or.inr (Or.inl rfl) | exact Or.inr (Or.inr rfl))) je_str (jc_sh (je_var (i := 3) rfl (by first | exact Or.inl rfl | exact Or.inr (Or.inl rfl) | exact Or.inr (Or.inr rfl)))))
    (jss_one (js_ret (jc_sh (je_tup (ja_c (jc_sh (je_tupOf (by rfl) T.z_tuple (by decide +kernel) (jc_lo (jl_var (i := 6) rfl (by first | exact Or.inl rfl | exact Or.inr (Or.inl rfl) | exact Or.inr (Or.inr rfl)))))) (ja_c (jc_sh (je_bin op_addA os_add (je_cell (jc_call ((ok_G22 T 14).2) rfl (hr.mono (by decide)) (by rfl) T.g__law_grown T.F__law_grown.kp T.b__law_grown (ja_c (jc_lo (jl_var (i := 0) rfl (by first | exact Or.inl rfl | exact Or.inr (Or.inl rfl) | exact Or.inr (Or.inr rfl)))) (ja_c (jc_lo (jl_var (i := 5) rfl (by first | exact Or.inl rfl | exact Or.inr (Or.inl rfl) | exact Or.inr (Or.inr rfl)))) (ja_c (jc_sh je_int) (ja_c (jc_sh je_int) (ja_c (jc_sh je_int) ja_nil))))))) (je_cell (jc_call ((ok_G22 T 14).2) rfl (hr.mono (by decide)) (by rfl) T.g__law_grown T.F__law_grown.kp T.b__law_grown (ja_c (jc_lo (jl_var (i := 0) rfl (by first | exact Or.inl rfl | exact Or.inr (Or.inl rfl) | exact Or.inr (Or.inr rfl)))) (ja_c (jc_lo (jl_var (i := 5) rfl (by first | exact Or.inl rfl | exact Or.inr (Or.inl rfl) | exact Or.inr (Or.inr rfl)))) (ja_c (jc_sh je_int) (ja_c (jc_sh je_int) (ja_c (jc_sh je_int) ja_nil))))))))) ja_nil)))))))))))
theorem ok_G24 (T : Tx w K mg) : ∀ k : Nat, FnOk P w K mg base CX0 (0 + k) T.a__law_spots T.d__law_spots ["_law_row_here", "_law_head"] (spF K 2 (f_G24 k 0))
  | 0 => fn_bad rfl
  | k + 1 => by
    have ih := ok_G24 T k
    exact (by
      have sc := sc__law_spots
      refine fn_J T.F__law_spots sc rfl rfl (by decide) fun cdv A outer s H E hr => ?_
      exact (jss_cons (js_set (i := 2) sc.nd rfl (by first | exact Or.inl rfl | exact Or.inr rfl) (jc_lo (jl_new (jo_lst ja_nil))))
    (jss_cons (js_for PassesOwn.never rfl (ji_enum (by rfl) T.z_enumerate (je_var (i := 0) rfl (by first | exact Or.inl rfl | exact Or.inr (Or.inl rfl) | exact Or.inr (Or.inr rfl)))) (jg_tup rfl (jgs_cons (jg_name (i := 3) sc.nd rfl (by first | exact Or.inl rfl | exact Or.inr rfl)) (jgs_cons (jg_name (i := 4) sc.nd rfl (by first | exact Or.inl rfl | exact Or.inr rfl)) jgs_nil)))
    (jss_cons (js_app (jl_var (i := 2) rfl (by first | exact Or.inl rfl | exact Or.inr (Or.inl rfl) | exact Or.inr (Or.inr rfl))) (jc_sh (je_bin op_addA os_add (je_var (i := 1) rfl (by first | exact Or.inl rfl | exact Or.inr (Or.inl rfl) | exact Or.inr (Or.inr rfl))) (je_tup (ja_c (jc_sh (je_var (i := 3) rfl (by first | exact Or.inl rfl | exact Or.inr (Or.inl rfl) | exact Or.inr (Or.inr rfl)))) ja_nil)))) (PE0 := (pe_bm PySem.F.plainAttrs_list PySem.F.slot_list_append PySem.F.type_list_append mt_append (jl_var (i := 2) rfl (by first | exact Or.inl rfl | exact Or.inr (Or.inl rfl) | exact Or.inr (Or.inr rfl))) (pa_cons (jc_sh (je_bin op_addA os_add (je_var (i := 1) rfl (by first | exact Or.inl rfl | exact Or.inr (Or.inl rfl) | exact Or.inr (Or.inr rfl))) (je_tup (ja_c (jc_sh (je_var (i := 3) rfl (by first | exact Or.inl rfl | exact Or.inr (Or.inl rfl) | exact Or.inr (Or.inr rfl)))) ja_nil)))) pa_nil))))
    (jss_cons (js_set (i := 5) sc.nd rfl (by first | exact Or.inl rfl | exact Or.inr rfl) (jc_sh (je_cell (jc_dget2 hr.units (jl_disp (.cons je_str (jc_sh (je_slice (je_var (i := 4) rfl (by first | exact Or.inl rfl | exact Or.inr (Or.inl rfl) | exact Or.inr (Or.inr rfl))) (jp_some je_int) jp_none)) (.cons je_str (jc_sh (je_ix (je_var (i := 4) rfl (by first | exact Or.inl rfl | exact Or.inr (Or.inl rfl) | exact Or.inr (Or.inr rfl))) (je_neg je_int) (fun _ _ => rfl))) .nil)) (by simp) (by decide)) (je_ix (je_var (i := 4) rfl (by first | exact Or.inl rfl | exact Or.inr (Or.inl rfl) | exact Or.inr (Or.inr rfl))) je_int (fun _ _ => rfl)) (jc_sh (je_tup ja_nil)) ⟨rfl, rfl, rfl, rfl⟩))))
    (jss_one (js_for PassesOwn.never rfl (ji_enum (by rfl) T.z_enumerate (je_var (i := 5) rfl (by first | exact Or.inl rfl | exact Or.inr (Or.inl rfl) | exact Or.inr (Or.inr rfl)))) (jg_tup rfl (jgs_cons (jg_name (i := 6) sc.nd rfl (by first | exact Or.inl rfl | exact Or.inr rfl)) (jgs_cons (jg_name (i := 7) sc.nd rfl (by first | exact Or.inl rfl | exact Or.inr rfl)) jgs_nil)))
    (jss_one (js_ext (jl_var (i := 2) rfl (by first | exact Or.inl rfl | exact Or.inr (Or.inl rfl) | exact Or.inr (Or.inr rfl))) (jc_sh (je_cell (jc_call ih rfl hr (by rfl) T.g__law_spots T.F__law_spots.kp T.b__law_spots (ja_c (jc_sh (je_var (i := 7) rfl (by first | exact Or.inl rfl | exact Or.inr (Or.inl rfl) | exact Or.inr (Or.inr rfl)))) (ja_c (jc_sh (je_bin op_addA os_add (je_var (i := 1) rfl (by first | exact Or.inl rfl | exact Or.inr (Or.inl rfl) | exact Or.inr (Or.inr rfl))) (je_tup (ja_c (jc_sh (je_var (i := 3) rfl (by first | exact Or.inl rfl | exact Or.inr (Or.inl rfl) | exact Or.inr (Or.inr rfl)))) (ja_c (jc_sh (je_var (i := 6) rfl (by first | exact Or.inl rfl | exact Or.inr (Or.inl rfl) | exact Or.inr (Or.inr rfl)))) ja_nil))))) ja_nil))))) (PE0 := (pe_bm PySem.F.plainAttrs_list PySem.F.slot_list_extend PySem.F.type_list_extend mt_extA (jl_var (i := 2) rfl (by first | exact Or.inl rfl | exact Or.inr (Or.inl rfl) | exact Or.inr (Or.inr rfl))) (pa_cons (jc_sh (je_cell (jc_call ih rfl hr (by rfl) T.g__law_spots T.F__law_spots.kp T.b__law_spots (ja_c (jc_sh (je_var (i := 7) rfl (by first | exact Or.inl rfl | exact Or.inr (Or.inl rfl) | exact Or.inr (Or.inr rfl)))) (ja_c (jc_sh (je_bin op_addA os_add (je_var (i := 1) rfl (by first | exact Or.inl rfl | exact Or.inr (Or.inl rfl) | exact Or.inr (Or.inr rfl))) (je_tup (ja_c (jc_sh (je_var (i := 3) rfl (by first | exact Or.inl rfl | exact Or.inr (Or.inl rfl) | exact Or.inr (Or.inr rfl)))) (ja_c (jc_sh (je_var (i := 6) rfl (by first | exact Or.inl rfl | exact Or.inr (Or.inl rfl) | exact Or.inr (Or.inr rfl)))) ja_nil))))) ja_nil))))) pa_nil))))))))))
    (jss_one (js_ret (jc_sh (je_seal (jl_var (i := 2) rfl (by first | exact Or.inl rfl | exact Or.inr (Or.inl rfl) | exact Or.inr (Or.inr rfl))))))))))
theorem ok__law_all_spots (T : Tx w K mg) : FnOk P w K mg base CX0 15 T.a__law_all_spots T.d__law_all_spots ["_law_program_here"] (spF K 1 f__law_all_spots) := by
  have sc := sc__law_all_spots
  refine fn_J T.F__law_all_spots sc rfl rfl (by decide) fun cdv A outer s H E hr => ?_
  exact (jss_cons (js_set (i := 1) sc.nd rfl (by first | exact Or.inl rfl | exact Or.inr rfl) (jc_lo (jl_new (jo_lst ja_nil))))
    (jss_cons (js_for PassesOwn.never rfl (ji_any (je_ix (je_var (i := 0) rfl (by first | exact Or.inl rfl | exact Or.inr (Or.inl rfl) | exact Or.inr (Or.inr rfl))) je_int (fun _ _ => rfl))) (jg_name (i := 2) sc.nd rfl (by first | exact Or.inl rfl | exact Or.inr rfl))
    (jss_one (js_ext (jl_var (i := 1) rfl (by first | exact Or.inl rfl | exact Or.inr (Or.inl rfl) | exact Or.inr (Or.inr rfl))) (jc_sh (je_cell (jc_call ((ok_G24 T 14)) rfl (hr.mono (by decide)) (by rfl) T.g__law_spots T.F__law_spots.kp T.b__law_spots (ja_c (jc_sh (je_ix (je_var (i := 2) rfl (by first | exact Or.inl rfl | exact Or.inr (Or.inl rfl) | exact Or.inr (Or.inr rfl))) je_int (fun _ _ => rfl))) (ja_c (jc_sh (je_tup (ja_c (jc_sh (je_ix (je_var (i := 2) rfl (by first | exact Or.inl rfl | exact Or.inr (Or.inl rfl) | exact Or.inr (Or.inr rfl))) je_int (fun _ _ => rfl))) ja_nil))) ja_nil))))) (PE0 := (pe_bm PySem.F.plainAttrs_list PySem.F.slot_list_extend PySem.F.type_list_extend mt_extA (jl_var (i := 1) rfl (by first | exact Or.inl rfl | exact Or.inr (Or.inl rfl) | exact Or.inr (Or.inr rfl))) (pa_cons (jc_sh (je_cell (jc_call ((ok_G24 T 14)) rfl (hr.mono (by decide)) (by rfl) T.g__law_spots T.F__law_spots.kp T.b__law_spots (ja_c (jc_sh (je_ix (je_var (i := 2) rfl (by first | exact Or.inl rfl | exact Or.inr (Or.inl rfl) | exact Or.inr (Or.inr rfl))) je_int (fun _ _ => rfl))) (ja_c (jc_sh (je_tup (ja_c (jc_sh (je_ix (je_var (i := 2) rfl (by first | exact Or.inl rfl | exact Or.inr (Or.inl rfl) | exact Or.inr (Or.inr rfl))) je_int (fun _ _ => rfl))) ja_nil))) ja_nil))))) pa_nil))))))
    (jss_one (js_ret (jc_sh (je_fr (jo_cat (jc_lo (jl_var (i := 1) rfl (by first | exact Or.inl rfl | exact Or.inr (Or.inl rfl) | exact Or.inr (Or.inr rfl)))) (jc_sh (je_cell (jc_call ((ok_G24 T 14)) rfl (hr.mono (by decide)) (by rfl) T.g__law_spots T.F__law_spots.kp T.b__law_spots (ja_c (jc_sh (je_ix (je_var (i := 0) rfl (by first | exact Or.inl rfl | exact Or.inr (Or.inl rfl) | exact Or.inr (Or.inr rfl))) je_int (fun _ _ => rfl))) (ja_c (jc_sh (je_tup (ja_c (jc_sh je_str) ja_nil))) ja_nil))))))))))))
theorem ok_G26 (T : Tx w K mg) : ∀ k : Nat, FnOk P w K mg base CX0 (0 + k) T.a__law_cut T.d__law_cut ["_law_row_here", "_law_numbers"] (spF K 2 (f_G26 k 0))
  | 0 => fn_bad rfl
  | k + 1 => by
    have ih := ok_G26 T k
    exact (by
      have sc := sc__law_cut
      refine fn_J T.F__law_cut sc rfl rfl (by decide) fun cdv A outer s H E hr => ?_
      exact (jss_cons (js_set (i := 2) sc.nd rfl (by first | exact Or.inl rfl | exact Or.inr rfl) (jc_sh (je_ix (je_var (i := 1) rfl (by first | exact Or.inl rfl | exact Or.inr (Or.inl rfl) | exact Or.inr (Or.inr rfl))) je_int (fun _ _ => rfl))))
    (jss_cons (js_if (jt_cmp (op_eqA hr.units) os_eq (je_callB call_lenA cs_len (by rfl) T.z_len (by decide +kernel) (ja_c (jc_sh (je_var (i := 1) rfl (by first | exact Or.inl rfl | exact Or.inr (Or.inl rfl) | exact Or.inr (Or.inr rfl)))) ja_nil)) je_int (nomark _))
    (jss_one (js_ret (jc_sh (je_bin op_addA os_add (je_slice (je_var (i := 0) rfl (by first | exact Or.inl rfl | exact Or.inr (Or.inl rfl) | exact Or.inr (Or.inr rfl))) jp_none (jp_some (je_var (i := 2) rfl (by first | exact Or.inl rfl | exact Or.inr (Or.inl rfl) | exact Or.inr (Or.inr rfl))))) (je_slice (je_var (i := 0) rfl (by first | exact Or.inl rfl | exact Or.inr (Or.inl rfl) | exact Or.inr (Or.inr rfl))) (jp_some (je_bin op_addA os_add (je_var (i := 2) rfl (by first | exact Or.inl rfl | exact Or.inr (Or.inl rfl) | exact Or.inr (Or.inr rfl))) je_int)) jp_none)))))
    jss_nil)
    (jss_cons (js_set (i := 3) sc.nd rfl (by first | exact Or.inl rfl | exact Or.inr rfl) (jc_sh (je_ix (je_var (i := 0) rfl (by first | exact Or.inl rfl | exact Or.inr (Or.inl rfl) | exact Or.inr (Or.inr rfl))) (je_var (i := 2) rfl (by first | exact Or.inl rfl | exact Or.inr (Or.inl rfl) | exact Or.inr (Or.inr rfl))) (fun _ _ => rfl))))
    (jss_cons (js_if (jt_cmp (op_eqA hr.units) os_eq (je_ix (je_var (i := 3) rfl (by first | exact Or.inl rfl | exact Or.inr (Or.inl rfl) | exact Or.inr (Or.inr rfl))) je_int (fun _ _ => rfl)) je_str (nomark _))
    (jss_one (js_ret (jc_sh (je_bin op_addA os_add (je_bin op_addA os_add (je_slice (je_var (i := 0) rfl (by first | exact Or.inl rfl | exact Or.inr (Or.inl rfl) | exact Or.inr (Or.inr rfl))) jp_none (jp_some (je_var (i := 2) rfl (by first | exact Or.inl rfl | exact Or.inr (Or.inl rfl) | exact Or.inr (Or.inr rfl))))) (je_tup (ja_c (jc_sh (je_tup (ja_c (jc_sh je_str) (ja_c (jc_sh (je_cell (jc_call ih rfl hr (by rfl) T.g__law_cut T.F__law_cut.kp T.b__law_cut (ja_c (jc_sh (je_ix (je_var (i := 3) rfl (by first | exact Or.inl rfl | exact Or.inr (Or.inl rfl) | exact Or.inr (Or.inr rfl))) je_int (fun _ _ => rfl))) (ja_c (jc_sh (je_slice (je_var (i := 1) rfl (by first | exact Or.inl rfl | exact Or.inr (Or.inl rfl) | exact Or.inr (Or.inr rfl))) (jp_some je_int) jp_none)) ja_nil))))) ja_nil)))) ja_nil))) (je_slice (je_var (i := 0) rfl (by first | exact Or.inl rfl | exact Or.inr (Or.inl rfl) | exact Or.inr (Or.inr rfl))) (jp_some (je_bin op_addA os_add (je_var (i := 2) rfl (by first | exact Or.inl rfl | exact Or.inr (Or.inl rfl) | exact Or.inr (Or.inr rfl))) je_int)) jp_none)))))
    jss_nil)
    (jss_cons (js_lc (mc := (fun m => mSh (mFr m))) (i := 4) (own := [("_law_k", 5), ("_law_one", 6)]) (by decide) rfl sc.nd rfl rfl mc_fr (sw_true rfl rfl rfl (by decide +kernel)) (ji_enum (by rfl) T.z_enumerate (je_ix (je_var (i := 3) rfl (by first | exact Or.inl rfl | exact Or.inr (Or.inl rfl) | exact Or.inr (Or.inr rfl))) je_int (fun _ _ => rfl))) (blkOk_by (N := N__law_cut) (sc := defScope s__law_cut) (by decide +kernel)) (fun _ _ _ _ _ => (jg_tup rfl (jgs_cons (jg_name (i := 5) sc.nd rfl (by first | exact Or.inl rfl | exact Or.inr rfl)) (jgs_cons (jg_name (i := 6) sc.nd rfl (by first | exact Or.inl rfl | exact Or.inr rfl)) jgs_nil)))) (fun _ _ _ _ _ => jts_nil) (fun _ _ _ _ _ => (je_if (jt_cmp (op_eqA hr.units) os_eq (je_var (i := 5) rfl (by first | exact Or.inl rfl | exact Or.inr (Or.inl rfl) | exact Or.inr (Or.inr rfl))) (je_ix (je_var (i := 1) rfl (by first | exact Or.inl rfl | exact Or.inr (Or.inl rfl) | exact Or.inr (Or.inr rfl))) je_int (fun _ _ => rfl)) (nomark _)) (je_cell (jc_call ih rfl hr (by rfl) T.g__law_cut T.F__law_cut.kp T.b__law_cut (ja_c (jc_sh (je_var (i := 6) rfl (by first | exact Or.inl rfl | exact Or.inr (Or.inl rfl) | exact Or.inr (Or.inr rfl)))) (ja_c (jc_sh (je_slice (je_var (i := 1) rfl (by first | exact Or.inl rfl | exact Or.inr (Or.inl rfl) | exact Or.inr (Or.inr rfl))) (jp_some je_int) jp_none)) ja_nil)))) (je_var (i := 6) rfl (by first | exact Or.inl rfl | exact Or.inr (Or.inl rfl) | exact Or.inr (Or.inr rfl))))))
    (jss_one (js_ret (jc_sh (je_bin op_addA os_add (je_bin op_addA os_add (je_slice (je_var (i := 0) rfl (by first | exact Or.inl rfl | exact Or.inr (Or.inl rfl) | exact Or.inr (Or.inr rfl))) jp_none (jp_some (je_var (i := 2) rfl (by first | exact Or.inl rfl | exact Or.inr (Or.inl rfl) | exact Or.inr (Or.inr rfl))))) (je_tup (ja_c (jc_sh (je_tup (ja_c (jc_sh je_str) (ja_c (jc_sh (je_callTy call_tuple_of cs_tuple (by rfl) T.z_tuple (by decide +kernel) (ja_c (jc_sh (je_var (i := 4) rfl (by first | exact Or.inl rfl | exact Or.inr (Or.inl rfl) | exact Or.inr (Or.inr rfl)))) ja_nil))) ja_nil)))) ja_nil))) (je_slice (je_var (i := 0) rfl (by first | exact Or.inl rfl | exact Or.inr (Or.inl rfl) | exact Or.inr (Or.inr rfl))) (jp_some (je_bin op_addA os_add (je_var (i := 2) rfl (by first | exact Or.inl rfl | exact Or.inr (Or.inl rfl) | exact Or.inr (Or.inr rfl))) je_int)) jp_none)))))))))))
theorem ok__law_without (T : Tx w K mg) : FnOk P w K mg base CX0 15 T.a__law_without T.d__law_without ["_law_program_here", "_law_place"] (spF K 2 f__law_without) := by
  have sc := sc__law_without
  refine fn_J T.F__law_without sc rfl rfl (by decide) fun cdv A outer s H E hr => ?_
  exact (jss_cons (js_if (jt_cmp (op_eqA hr.units) os_eq (je_ix (je_var (i := 1) rfl (by first | exact Or.inl rfl | exact Or.inr (Or.inl rfl) | exact Or.inr (Or.inr rfl))) je_int (fun _ _ => rfl)) je_str (nomark _))
    (jss_one (js_ret (jc_sh (je_tup (ja_c (jc_sh (je_ix (je_var (i := 0) rfl (by first | exact Or.inl rfl | exact Or.inr (Or.inl rfl) | exact Or.inr (Or.inr rfl))) je_int (fun _ _ => rfl))) (ja_c (jc_sh (je_cell (jc_call ((ok_G26 T 14)) rfl (hr.mono (by decide)) (by rfl) T.g__law_cut T.F__law_cut.kp T.b__law_cut (ja_c (jc_sh (je_ix (je_var (i := 0) rfl (by first | exact Or.inl rfl | exact Or.inr (Or.inl rfl) | exact Or.inr (Or.inr rfl))) je_int (fun _ _ => rfl))) (ja_c (jc_sh (je_slice (je_var (i := 1) rfl (by first | exact Or.inl rfl | exact Or.inr (Or.inl rfl) | exact Or.inr (Or.inr rfl))) (jp_some je_int) jp_none)) ja_nil))))) ja_nil))))))
    jss_nil)
    (jss_cons (js_lc (mc := (fun m => mSh (mFr m))) (i := 2) (own := [("_law_one", 3)]) (by decide) rfl sc.nd rfl rfl mc_fr (sw_true rfl rfl rfl (by decide +kernel)) (ji_any (je_ix (je_var (i := 0) rfl (by first | exact Or.inl rfl | exact Or.inr (Or.inl rfl) | exact Or.inr (Or.inr rfl))) je_int (fun _ _ => rfl))) (blkOk_by (N := N__law_without) (sc := defScope s__law_without) (by decide +kernel)) (fun _ _ _ _ _ => (jg_name (i := 3) sc.nd rfl (by first | exact Or.inl rfl | exact Or.inr rfl))) (fun _ _ _ _ _ => jts_nil) (fun _ _ _ _ _ => (je_if (jt_cmp (op_eqA hr.units) os_eq (je_ix (je_var (i := 3) rfl (by first | exact Or.inl rfl | exact Or.inr (Or.inl rfl) | exact Or.inr (Or.inr rfl))) je_int (fun _ _ => rfl)) (je_ix (je_var (i := 1) rfl (by first | exact Or.inl rfl | exact Or.inr (Or.inl rfl) | exact Or.inr (Or.inr rfl))) je_int (fun _ _ => rfl)) (nomark _)) (je_bin op_addA os_add (je_slice (je_var (i := 3) rfl (by first | exact Or.inl rfl | exact Or.inr (Or.inl rfl) | exact Or.inr (Or.inr rfl))) jp_none (jp_some je_int)) (je_tup (ja_c (jc_sh (je_cell (jc_call ((ok_G26 T 14)) rfl (hr.mono (by decide)) (by rfl) T.g__law_cut T.F__law_cut.kp T.b__law_cut (ja_c (jc_sh (je_ix (je_var (i := 3) rfl (by first | exact Or.inl rfl | exact Or.inr (Or.inl rfl) | exact Or.inr (Or.inr rfl))) je_int (fun _ _ => rfl))) (ja_c (jc_sh (je_slice (je_var (i := 1) rfl (by first | exact Or.inl rfl | exact Or.inr (Or.inl rfl) | exact Or.inr (Or.inr rfl))) (jp_some je_int) jp_none)) ja_nil))))) ja_nil))) (je_var (i := 3) rfl (by first | exact Or.inl rfl | exact Or.inr (Or.inl rfl) | exact Or.inr (Or.inr rfl))))))
    (jss_one (js_ret (jc_sh (je_tup (ja_c (jc_sh (je_callTy call_tuple_of cs_tuple (by rfl) T.z_tuple (by decide +kernel) (ja_c (jc_sh (je_var (i := 2) rfl (by first | exact Or.inl rfl | exact Or.inr (Or.inl rfl) | exact Or.inr (Or.inr rfl)))) ja_nil))) (ja_c (jc_sh (je_ix (je_var (i := 0) rfl (by first | exact Or.inl rfl | exact Or.inr (Or.inl rfl) | exact Or.inr (Or.inr rfl))) je_int (fun _ _ => rfl))) ja_nil))))))))
theorem ok__law_told (T : Tx w K mg) : FnOk P w K mg base CX0 20 T.a__law_told T.d__law_told ["_law_program_here", "_law_turn"] (spF K 2 f__law_told) := by
  have sc := sc__law_told
  refine fn_J T.F__law_told sc rfl rfl (by decide) fun cdv A outer s H E hr => ?_
  exact (jss_cons (js_set (i := 2) sc.nd rfl (by first | exact Or.inl rfl | exact Or.inr rfl) (jc_sh je_non))
    (jss_cons (js_tryAs (i := 3) rfl rfl sc.nd rfl rfl ⟨by rfl, by decide, .inl T.g_WipeError⟩ takesNo (hit_ok T.h_0) (fun W pn xe tk pa => (jss_one (js_set (i := 2) sc.nd rfl (by first | exact Or.inl rfl | exact Or.inr rfl) (jc_sh (je_tup (ja_c (jc_sh je_str) (ja_c (jc_sh (je_cell (jc_callX tk (ok_turned T) rfl (hr.mono (by decide)) (by rfl) T.g_turned T.F_turned.kp T.b_turned (ja_c (jc_sh (je_var (i := 0) rfl (by first | exact Or.inl rfl | exact Or.inr (Or.inl rfl) | exact Or.inr (Or.inr rfl)))) (ja_c (jc_sh (je_var (i := 1) rfl (by first | exact Or.inl rfl | exact Or.inr (Or.inl rfl) | exact Or.inr (Or.inr rfl)))) ja_nil))))) ja_nil)))))))
    (fun y C a oe d pn hC hd hz hf => (suite_if (m1 := fun num => (mSeq (mSet 4 (mSh (mOrV (mIsB (some false)) (mNotV (mIsB (some true))))))
  (mSet 2 (mSh (mTup [(mSh (mC (PyData.str "refused"))), (mSh (mAndV (mIsB (some true)) (mNotV (mVar 4))))]))))) (m2 := msBad) T.cl_NoTurn hC hz (fun hz => (jks_cons (jks_set (j := 4) (by decide) sc.nd rfl (by first | exact Or.inl rfl | exact Or.inr rfl) (jk_sh (jk_or (jk_isET (o := some false) T.ec_NoTurn hz hf (by rfl) T.z_isinstance (i := 3) rfl (by first | exact Or.inl rfl | exact Or.inr (Or.inl rfl) | exact Or.inr (Or.inr rfl)) (pa_cons (pe_glob (v := .ref T.C_NoAnswer) (by rfl) T.g_NoAnswer rfl) (pa_cons (pe_glob (v := .ref T.C_NoCode) (by rfl) T.g_NoCode rfl) (pa_cons (pe_glob (v := .ref T.C_NoRow) (by rfl) T.g_NoRow rfl) (pa_cons (pe_glob (v := .ref T.C_NoText) (by rfl) T.g_NoText rfl) (pa_cons (pe_glob (v := .ref T.C_TooLong) (by rfl) T.g_TooLong rfl) pa_nil))))) (fun _ _ _ h => h) (by show 5 ≤ sizeLine; rw [sizeLine_eq]; omega) (.cons (.own _) (.cons (.own _) (.cons (.own _) (.cons (.own _) (.cons (.own _) .nil))))) (fun b h => by cases h; exact T.ki_0)) (jk_one (jk_not (jk_isE (o := some true) T.ec_NoTurn hz hf (by rfl) T.z_isinstance (i := 3) rfl (by first | exact Or.inl rfl | exact Or.inr (Or.inl rfl) | exact Or.inr (Or.inr rfl)) (pe_bltn (v := .ty "ValueError") (by rfl) T.z_ValueError rfl rfl) (.ty _) (fun b h => by cases h; exact T.ki_1)))))))
    (jks_one (jks_set (j := 2) (by decide) sc.nd rfl (by first | exact Or.inl rfl | exact Or.inr rfl) (jk_sh (jk_tup (jka_c (jkc_free (jc_sh je_str)) (jka_c (jk_sh (jk_and (jk_isE (o := some true) T.ec_NoTurn hz hf (by rfl) T.z_isinstance (i := 3) rfl (by first | exact Or.inl rfl | exact Or.inr (Or.inl rfl) | exact Or.inr (Or.inr rfl)) (pe_glob (v := .ref T.C_NoTurn) (by rfl) T.g_NoTurn rfl) (.own _) (fun b h => by cases h; exact T.ki_2)) (jk_one (jk_free (je_not (je_var (i := 4) rfl (by first | exact Or.inl rfl | exact Or.inr (Or.inl rfl) | exact Or.inr (Or.inr rfl)))))))) jka_nil))))))))
    suite_bad)))
    (jss_one (js_ret (jc_sh (je_var (i := 2) rfl (by first | exact Or.inl rfl | exact Or.inr (Or.inl rfl) | exact Or.inr (Or.inr rfl))))))))
theorem ok__law_row (T : Tx w K mg) : FnOk P w K mg base CX0 1 T.a__law_row T.d__law_row ["_law_program_here", "_law_place"] (spF K 2 f__law_row) := by
  have sc := sc__law_row
  refine fn_J T.F__law_row sc rfl rfl (by decide) fun cdv A outer s H E hr => ?_
  exact (jss_cons (js_set (i := 2) sc.nd rfl (by first | exact Or.inl rfl | exact Or.inr rfl) (jc_sh (je_ix (je_var (i := 0) rfl (by first | exact Or.inl rfl | exact Or.inr (Or.inl rfl) | exact Or.inr (Or.inr rfl))) je_int (fun _ _ => rfl))))
    (jss_cons (js_for PassesOwn.never rfl (ji_any (je_ix (je_var (i := 0) rfl (by first | exact Or.inl rfl | exact Or.inr (Or.inl rfl) | exact Or.inr (Or.inr rfl))) je_int (fun _ _ => rfl))) (jg_name (i := 3) sc.nd rfl (by first | exact Or.inl rfl | exact Or.inr rfl))
    (jss_one (js_if (jt_cmp (op_eqA hr.units) os_eq (je_ix (je_var (i := 3) rfl (by first | exact Or.inl rfl | exact Or.inr (Or.inl rfl) | exact Or.inr (Or.inr rfl))) je_int (fun _ _ => rfl)) (je_ix (je_var (i := 1) rfl (by first | exact Or.inl rfl | exact Or.inr (Or.inl rfl) | exact Or.inr (Or.inr rfl))) je_int (fun _ _ => rfl)) (nomark _))
    (jss_one (js_set (i := 2) sc.nd rfl (by first | exact Or.inl rfl | exact Or.inr rfl) (jc_sh (je_ix (je_var (i := 3) rfl (by first | exact Or.inl rfl | exact Or.inr (Or.inl rfl) | exact Or.inr (Or.inr rfl))) je_int (fun _ _ => rfl)))))
    jss_nil)))
    (jss_cons (js_for PassesOwn.never rfl (ji_range3 (by rfl) T.z_range je_int (je_bin op_sub os_sub (je_callB call_lenA cs_len (by rfl) T.z_len (by decide +kernel) (ja_c (jc_sh (je_var (i := 1) rfl (by first | exact Or.inl rfl | exact Or.inr (Or.inl rfl) | exact Or.inr (Or.inr rfl)))) ja_nil)) je_int) je_int) (jg_name (i := 4) sc.nd rfl (by first | exact Or.inl rfl | exact Or.inr rfl))
    (jss_cons (js_set (i := 5) sc.nd rfl (by first | exact Or.inl rfl | exact Or.inr rfl) (jc_sh (je_ix (je_var (i := 2) rfl (by first | exact Or.inl rfl | exact Or.inr (Or.inl rfl) | exact Or.inr (Or.inr rfl))) (je_ix (je_var (i := 1) rfl (by first | exact Or.inl rfl | exact Or.inr (Or.inl rfl) | exact Or.inr (Or.inr rfl))) (je_var (i := 4) rfl (by first | exact Or.inl rfl | exact Or.inr (Or.inl rfl) | exact Or.inr (Or.inr rfl))) (fun _ _ => rfl)) (fun _ _ => rfl))))
    (jss_cons (js_set (i := 2) sc.nd rfl (by first | exact Or.inl rfl | exact Or.inr rfl) (jc_sh (je_ix (je_var (i := 5) rfl (by first | exact Or.inl rfl | exact Or.inr (Or.inl rfl) | exact Or.inr (Or.inr rfl))) je_int (fun _ _ => rfl))))
    (jss_one (js_if (jt_cmp (op_eqA hr.units) os_eq (je_ix (je_var (i := 5) rfl (by first | exact Or.inl rfl | exact Or.inr (Or.inl rfl) | exact Or.inr (Or.inr rfl))) je_int (fun _ _ => rfl)) je_str (nomark _))
    (jss_one (js_set (i := 2) sc.nd rfl (by first | exact Or.inl rfl | exact Or.inr rfl) (jc_sh (je_ix (je_ix (je_var (i := 5) rfl (by first | exact Or.inl rfl | exact Or.inr (Or.inl rfl) | exact Or.inr (Or.inr rfl))) je_int (fun _ _ => rfl)) (je_ix (je_var (i := 1) rfl (by first | exact Or.inl rfl | exact Or.inr (Or.inl rfl) | exact Or.inr (Or.inr rfl))) (je_bin op_addA os_add (je_var (i := 4) rfl (by first | exact Or.inl rfl | exact Or.inr (Or.inl rfl) | exact Or.inr (Or.inr rfl))) je_int) (fun _ _ => rfl)) (fun _ _ => rfl)))))
    jss_nil)))))
    (jss_one (js_ret (jc_sh (je_var (i := 2) rfl (by first | exact Or.inl rfl | exact Or.inr (Or.inl rfl) | exact Or.inr (Or.inr rfl)))))))))
theorem ok__law_lets_plain (T : Tx w K mg) : FnOk P w K mg base CX0 2 T.a__law_lets_plain T.d__law_lets_plain ["_law_program_here", "_law_place", "_law_rule"] (spF K 3 f__law_lets_plain) := by
  have sc := sc__law_lets_plain
  refine fn_J T.F__law_lets_plain sc rfl rfl (by decide) fun cdv A outer s H E hr => ?_
  exact (jss_cons (js_set (i := 3) sc.nd rfl (by first | exact Or.inl rfl | exact Or.inr rfl) (jc_sh (je_cell (jc_call (ok__law_row T) rfl (hr.mono (by decide)) (by rfl) T.g__law_row T.F__law_row.kp T.b__law_row (ja_c (jc_sh (je_var (i := 0) rfl (by first | exact Or.inl rfl | exact Or.inr (Or.inl rfl) | exact Or.inr (Or.inr rfl)))) (ja_c (jc_sh (je_var (i := 1) rfl (by first | exact Or.inl rfl | exact Or.inr (Or.inl rfl) | exact Or.inr (Or.inr rfl)))) ja_nil))))))
    (jss_cons (js_set (i := 4) sc.nd rfl (by first | exact Or.inl rfl | exact Or.inr rfl) (jc_sh (je_ix (je_var (i := 3) rfl (by first | exact Or.inl rfl | exact Or.inr (Or.inl rfl) | exact Or.inr (Or.inr rfl))) (je_ix (je_var (i := 1) rfl (by first | exact Or.inl rfl | exact Or.inr (Or.inl rfl) | exact Or.inr (Or.inr rfl))) (je_neg je_int) (fun _ _ => rfl)) (fun _ _ => rfl))))
    (jss_cons (js_set (i := 5) sc.nd rfl (by first | exact Or.inl rfl | exact Or.inr rfl) (jc_sh (je_ix (je_bin op_addA os_add (je_var (i := 3) rfl (by first | exact Or.inl rfl | exact Or.inr (Or.inl rfl) | exact Or.inr (Or.inr rfl))) (je_tup (ja_c (jc_sh (je_tup (ja_c (jc_sh je_str) ja_nil))) ja_nil))) (je_bin op_addA os_add (je_ix (je_var (i := 1) rfl (by first | exact Or.inl rfl | exact Or.inr (Or.inl rfl) | exact Or.inr (Or.inr rfl))) (je_neg je_int) (fun _ _ => rfl)) je_int) (fun _ _ => rfl))))
    (jss_cons (js_if (jt_cmp (op_eqA hr.units) os_eq (je_var (i := 2) rfl (by first | exact Or.inl rfl | exact Or.inr (Or.inl rfl) | exact Or.inr (Or.inr rfl))) je_str (nomark _))
    (jss_one (js_ret (jc_sh (je_and (je_cmp (op_eqA hr.units) os_eq (je_ix (je_var (i := 4) rfl (by first | exact Or.inl rfl | exact Or.inr (Or.inl rfl) | exact Or.inr (Or.inr rfl))) je_int (fun _ _ => rfl)) je_str (nomark _)) (je_one (je_cmp (op_eqA hr.units) os_eq (je_ix (je_var (i := 4) rfl (by first | exact Or.inl rfl | exact Or.inr (Or.inl rfl) | exact Or.inr (Or.inr rfl))) je_int (fun _ _ => rfl)) (je_ix (je_var (i := 4) rfl (by first | exact Or.inl rfl | exact Or.inr (Or.inl rfl) | exact Or.inr (Or.inr rfl))) je_int (fun _ _ => rfl)) (nomark _)))))))
    jss_nil)
    (jss_cons (js_if (jt_cmp (op_eqA hr.units) os_eq (je_var (i := 2) rfl (by first | exact Or.inl rfl | exact Or.inr (Or.inl rfl) | exact Or.inr (Or.inr rfl))) je_str (nomark _))
    (jss_one (js_ret (jc_sh (je_and (je_cmp op_inA os_in (je_ix (je_var (i := 4) rfl (by first | exact Or.inl rfl | exact Or.inr (Or.inl rfl) | exact Or.inr (Or.inr rfl))) je_int (fun _ _ => rfl)) (je_tup (ja_c (jc_sh je_str) (ja_c (jc_sh je_str) ja_nil))) (by rfl)) (je_one (je_cmp (op_eqA hr.units) os_eq (je_var (i := 5) rfl (by first | exact Or.inl rfl | exact Or.inr (Or.inl rfl) | exact Or.inr (Or.inr rfl))) (je_var (i := 4) rfl (by first | exact Or.inl rfl | exact Or.inr (Or.inl rfl) | exact Or.inr (Or.inr rfl))) (nomark _)))))))
    jss_nil)
    (jss_cons (js_if (jt_cmp op_notInA os_notIn (je_ix (je_var (i := 4) rfl (by first | exact Or.inl rfl | exact Or.inr (Or.inl rfl) | exact Or.inr (Or.inr rfl))) je_int (fun _ _ => rfl)) (je_tup (ja_c (jc_sh je_str) (ja_c (jc_sh je_str) (ja_c (jc_sh je_str) (ja_c (jc_sh je_str) ja_nil))))) (by rfl))
    (jss_one (js_ret (jc_sh je_bl)))
    jss_nil)
    (jss_cons (js_if (jt_cmp op_inA os_in (je_ix (je_var (i := 5) rfl (by first | exact Or.inl rfl | exact Or.inr (Or.inl rfl) | exact Or.inr (Or.inr rfl))) je_int (fun _ _ => rfl)) (je_tup (ja_c (jc_sh je_str) (ja_c (jc_sh je_str) (ja_c (jc_sh je_str) ja_nil)))) (by rfl))
    (jss_one (js_ret (jc_sh (je_and (je_cmp (op_eqA hr.units) os_eq (je_ix (je_var (i := 5) rfl (by first | exact Or.inl rfl | exact Or.inr (Or.inl rfl) | exact Or.inr (Or.inr rfl))) je_int (fun _ _ => rfl)) (je_ix (je_var (i := 4) rfl (by first | exact Or.inl rfl | exact Or.inr (Or.inl rfl) | exact Or.inr (Or.inr rfl))) je_int (fun _ _ => rfl)) (nomark _)) (je_one (je_cmp op_notInA os_notIn (je_ix (je_var (i := 4) rfl (by first | exact Or.inl rfl | exact Or.inr (Or.inl rfl) | exact Or.inr (Or.inr rfl))) je_int (fun _ _ => rfl)) (je_slice (je_var (i := 5) rfl (by first | exact Or.inl rfl | exact Or.inr (Or.inl rfl) | exact Or.inr (Or.inr rfl))) (jp_some je_int) jp_none) (by rfl)))))))
    jss_nil)
    (jss_cons (js_if (jt_cmp (op_eqA hr.units) os_eq (je_ix (je_var (i := 5) rfl (by first | exact Or.inl rfl | exact Or.inr (Or.inl rfl) | exact Or.inr (Or.inr rfl))) je_int (fun _ _ => rfl)) je_str (nomark _))
    (jss_one (js_ret (jc_sh (je_and (je_cmp op_inA os_in je_str (je_ix (je_var (i := 4) rfl (by first | exact Or.inl rfl | exact Or.inr (Or.inl rfl) | exact Or.inr (Or.inr rfl))) je_int (fun _ _ => rfl)) (by rfl)) (je_one (je_cmp (op_eqA hr.units) os_eq (je_ix (je_m1 PySem.F.slot_str_split PySem.F.type_str_split mt_split ms_split (je_ix (je_var (i := 4) rfl (by first | exact Or.inl rfl | exact Or.inr (Or.inl rfl) | exact Or.inr (Or.inr rfl))) je_int (fun _ _ => rfl)) je_str) je_int (fun _ _ => rfl)) (je_ix (je_var (i := 5) rfl (by first | exact Or.inl rfl | exact Or.inr (Or.inl rfl) | exact Or.inr (Or.inr rfl))) je_int (fun _ _ => rfl)) (nomark _)))))))
    jss_nil)
    (jss_one (js_ret (jc_sh (je_and (je_cmp op_inA os_in (je_ix (je_var (i := 5) rfl (by first | exact Or.inl rfl | exact Or.inr (Or.inl rfl) | exact Or.inr (Or.inr rfl))) je_int (fun _ _ => rfl)) (je_tup (ja_c (jc_sh je_str) (ja_c (jc_sh je_str) (ja_c (jc_sh je_str) (ja_c (jc_sh je_str) ja_nil))))) (by rfl)) (je_one (je_cmp (op_eqA hr.units) os_eq (je_ix (je_var (i := 5) rfl (by first | exact Or.inl rfl | exact Or.inr (Or.inl rfl) | exact Or.inr (Or.inr rfl))) je_int (fun _ _ => rfl)) (je_ix (je_var (i := 4) rfl (by first | exact Or.inl rfl | exact Or.inr (Or.inl rfl) | exact Or.inr (Or.inr rfl))) je_int (fun _ _ => rfl)) (nomark _)))))))))))))))
theorem ok_law (T : Tx w K mg) : FnOk P w K mg base CX0 21 T.a_law T.d_law ["_law_script"] (spF K 1 f_law) := by
  have sc := sc_law
  refine fn_J T.F_law sc rfl rfl (by decide) fun cdv A outer s H E hr => ?_
  exact (jss_cons (js_set (i := 1) sc.nd rfl (by first | exact Or.inl rfl | exact Or.inr rfl) (jc_lo (jl_cell (jc_call (ok__law_deck T) rfl (hr.mono (by decide)) (by rfl) T.g__law_deck T.F__law_deck.kp T.b__law_deck (ja_c (jc_sh (je_var (i := 0) rfl (by first | exact Or.inl rfl | exact Or.inr (Or.inl rfl) | exact Or.inr (Or.inr rfl)))) ja_nil)))))
    (jss_cons (js_set (i := 2) sc.nd rfl (by first | exact Or.inl rfl | exact Or.inr rfl) (jc_sh (je_cell (jc_call (ok__law_names T) rfl (hr.mono (by decide)) (by rfl) T.g__law_names T.F__law_names.kp T.b__law_names (ja_c (jc_lo (jl_var (i := 1) rfl (by first | exact Or.inl rfl | exact Or.inr (Or.inl rfl) | exact Or.inr (Or.inr rfl)))) (ja_c (jc_sh je_int) ja_nil))))))
    (jss_cons (js_set (i := 3) sc.nd rfl (by first | exact Or.inl rfl | exact Or.inr rfl) (jc_sh (je_cell (jc_call (ok__law_program T) rfl (hr.mono (by decide)) (by rfl) T.g__law_program T.F__law_program.kp T.b__law_program (ja_c (jc_lo (jl_var (i := 1) rfl (by first | exact Or.inl rfl | exact Or.inr (Or.inl rfl) | exact Or.inr (Or.inr rfl)))) (ja_c (jc_sh (je_var (i := 2) rfl (by first | exact Or.inl rfl | exact Or.inr (Or.inl rfl) | exact Or.inr (Or.inr rfl)))) (ja_c (jc_sh (je_cell (jc_call (ok__law_some T) rfl (hr.mono (by decide)) (by rfl) T.g__law_some T.F__law_some.kp T.b__law_some (ja_c (jc_lo (jl_var (i := 1) rfl (by first | exact Or.inl rfl | exact Or.inr (Or.inl rfl) | exact Or.inr (Or.inr rfl)))) (ja_c (jc_sh je_int) (ja_c (jc_sh je_int) ja_nil)))))) (ja_c (jc_sh je_int) ja_nil))))))))
    (jss_cons (js_set (i := 4) sc.nd rfl (by first | exact Or.inl rfl | exact Or.inr rfl) (jc_sh (je_cell (jc_call (ok__law_all_spots T) rfl (hr.mono (by decide)) (by rfl) T.g__law_all_spots T.F__law_all_spots.kp T.b__law_all_spots (ja_c (jc_sh (je_var (i := 3) rfl (by first | exact Or.inl rfl | exact Or.inr (Or.inl rfl) | exact Or.inr (Or.inr rfl)))) ja_nil)))))
    (jss_cons (js_set (i := 5) sc.nd rfl (by first | exact Or.inl rfl | exact Or.inr rfl) (jc_sh (je_bin op_addA os_add je_int (je_bin op_fdivW os_div (je_callB call_lenA cs_len (by rfl) T.z_len (by decide +kernel) (ja_c (jc_sh (je_var (i := 4) rfl (by first | exact Or.inl rfl | exact Or.inr (Or.inl rfl) | exact Or.inr (Or.inr rfl)))) ja_nil)) je_int))))
    (jss_cons (js_for PassesOwn.never rfl (ji_any (je_stepL (je_var (i := 4) rfl (by first | exact Or.inl rfl | exact Or.inr (Or.inl rfl) | exact Or.inr (Or.inr rfl))) (jp_some (je_cell (jc_call (ok__law_draw T) rfl (hr.mono (by decide)) (by rfl) T.g__law_draw T.F__law_draw.kp T.b__law_draw (ja_c (jc_lo (jl_var (i := 1) rfl (by first | exact Or.inl rfl | exact Or.inr (Or.inl rfl) | exact Or.inr (Or.inr rfl)))) (ja_c (jc_sh (je_var (i := 5) rfl (by first | exact Or.inl rfl | exact Or.inr (Or.inl rfl) | exact Or.inr (Or.inr rfl)))) ja_nil))))) (jp_some (je_var (i := 5) rfl (by first | exact Or.inl rfl | exact Or.inr (Or.inl rfl) | exact Or.inr (Or.inr rfl)))))) (jg_name (i := 6) sc.nd rfl (by first | exact Or.inl rfl | exact Or.inr rfl))
    (jss_one (js_for PassesOwn.never rfl (ji_any (je_lst (ja_c (jc_sh je_str) (ja_c (jc_sh je_str) ja_nil)))) (jg_name (i := 7) sc.nd rfl (by first | exact Or.inl rfl | exact Or.inr rfl))
    (jss_cons (js_set (i := 8) sc.nd rfl (by first | exact Or.inl rfl | exact Or.inr rfl) (jc_sh (je_tup (ja_c (jc_sh je_str) (ja_c (jc_sh je_bl) ja_nil)))))
    (jss_cons (js_if (jt_val (je_cell (jc_call (ok__law_lets_plain T) rfl (hr.mono (by decide)) (by rfl) T.g__law_lets_plain T.F__law_lets_plain.kp T.b__law_lets_plain (ja_c (jc_sh (je_var (i := 3) rfl (by first | exact Or.inl rfl | exact Or.inr (Or.inl rfl) | exact Or.inr (Or.inr rfl)))) (ja_c (jc_sh (je_var (i := 6) rfl (by first | exact Or.inl rfl | exact Or.inr (Or.inl rfl) | exact Or.inr (Or.inr rfl)))) (ja_c (jc_sh (je_var (i := 7) rfl (by first | exact Or.inl rfl | exact Or.inr (Or.inl rfl) | exact Or.inr (Or.inr rfl)))) ja_nil))))))
    (jss_one (js_set (i := 8) sc.nd rfl (by first | exact Or.inl rfl | exact Or.inr rfl) (jc_sh (je_tup (ja_c (jc_sh je_str) (ja_c (jc_sh (je_cell (jc_call (ok__law_without T) rfl (hr.mono (by decide)) (by rfl) T.g__law_without T.F__law_without.kp T.b__law_without (ja_c (jc_sh (je_var (i := 3) rfl (by first | exact Or.inl rfl | exact Or.inr (Or.inl rfl) | exact Or.inr (Or.inr rfl)))) (ja_c (jc_sh (je_var (i := 6) rfl (by first | exact Or.inl rfl | exact Or.inr (Or.inl rfl) | exact Or.inr (Or.inr rfl)))) ja_nil))))) ja_nil))))))
    jss_nil)
    (jss_one (js_if (jt_cmp (op_neA hr.units) os_ne (je_cell (jc_call (ok__law_told T) rfl (hr.mono (by decide)) (by rfl) T.g__law_told T.F__law_told.kp T.b__law_told (ja_c (jc_sh (je_var (i := 3) rfl (by first | exact Or.inl rfl | exact Or.inr (Or.inl rfl) | exact Or.inr (Or.inr rfl)))) (ja_c (jc_sh (je_tup (ja_c (jc_sh (je_var (i := 6) rfl (by first | exact Or.inl rfl | exact Or.inr (Or.inl rfl) | exact Or.inr (Or.inr rfl)))) (ja_c (jc_sh (je_var (i := 7) rfl (by first | exact Or.inl rfl | exact Or.inr (Or.inl rfl) | exact Or.inr (Or.inr rfl)))) ja_nil)))) ja_nil)))) (je_var (i := 8) rfl (by first | exact Or.inl rfl | exact Or.inr (Or.inl rfl) | exact Or.inr (Or.inr rfl))) (nomark _))
    (jss_one (js_ret (jc_sh je_bl)))
    jss_nil)))))))
    (jss_one (js_ret (jc_sh je_bl)))))))))
end
end Ds.K60
namespace Ds.K60
open PySem PySem.Spec PyProof.Rows L2 Dn
theorem all_mk {l : PySem.W.OpenLaw} {w : World} {K : Frag} {h : Heap} {mg : Str → Option Value} {fa f0 f1 f2 f3 f4 f5 f6 f7 f8 f9 f10 f11 f12 f13 f14 f15 f16 f17 f18 f19 f20 f21 f22 f23 f24 f25 f26 f27 f28 f29 f30 f31 f32 : Addr} {E0 E1 E2 E3 E4 E5 E6 : Addr} {od0 an0 : Option Addr} {sl0 : Array (Option Value)} {oc0 kV0 dc0 pm0 cd0 ct0 : Value} {od1 an1 : Option Addr} {sl1 : Array (Option Value)} {oc1 kV1 dc1 pm1 cd1 ct1 : Value} {od2 an2 : Option Addr} {sl2 : Array (Option Value)} {oc2 kV2 dc2 pm2 cd2 ct2 : Value} {od3 an3 : Option Addr} {sl3 : Array (Option Value)} {oc3 kV3 dc3 pm3 cd3 ct3 : Value} {od4 an4 : Option Addr} {sl4 : Array (Option Value)} {oc4 kV4 dc4 pm4 cd4 ct4 : Value} {od5 an5 : Option Addr} {sl5 : Array (Option Value)} {oc5 kV5 dc5 pm5 cd5 ct5 : Value} {od6 an6 : Option Addr} {sl6 : Array (Option Value)} {oc6 kV6 dc6 pm6 cd6 ct6 : Value} {od7 an7 : Option Addr} {sl7 : Array (Option Value)} {oc7 kV7 dc7 pm7 cd7 ct7 : Value} {od8 an8 : Option Addr} {sl8 : Array (Option Value)} {oc8 kV8 dc8 pm8 cd8 ct8 : Value} {od9 an9 : Option Addr} {sl9 : Array (Option Value)} {oc9 kV9 dc9 pm9 cd9 ct9 : Value} {od10 an10 : Option Addr} {sl10 : Array (Option Value)} {oc10 kV10 dc10 pm10 cd10 ct10 : Value} {od11 an11 : Option Addr} {sl11 : Array (Option Value)} {oc11 kV11 dc11 pm11 cd11 ct11 : Value} {od12 an12 : Option Addr} {sl12 : Array (Option Value)} {oc12 kV12 dc12 pm12 cd12 ct12 : Value} {od13 an13 : Option Addr} {sl13 : Array (Option Value)} {oc13 kV13 dc13 pm13 cd13 ct13 : Value} {od14 an14 : Option Addr} {sl14 : Array (Option Value)} {oc14 kV14 dc14 pm14 cd14 ct14 : Value} {od15 an15 : Option Addr} {sl15 : Array (Option Value)} {oc15 kV15 dc15 pm15 cd15 ct15 : Value} {od16 an16 : Option Addr} {sl16 : Array (Option Value)} {oc16 kV16 dc16 pm16 cd16 ct16 : Value} {od17 an17 : Option Addr} {sl17 : Array (Option Value)} {oc17 kV17 dc17 pm17 cd17 ct17 : Value} {od18 an18 : Option Addr} {sl18 : Array (Option Value)} {oc18 kV18 dc18 pm18 cd18 ct18 : Value} {od19 an19 : Option Addr} {sl19 : Array (Option Value)} {oc19 kV19 dc19 pm19 cd19 ct19 : Value} {od20 an20 : Option Addr} {sl20 : Array (Option Value)} {oc20 kV20 dc20 pm20 cd20 ct20 : Value} {od21 an21 : Option Addr} {sl21 : Array (Option Value)} {oc21 kV21 dc21 pm21 cd21 ct21 : Value} {od22 an22 : Option Addr} {sl22 : Array (Option Value)} {oc22 kV22 dc22 pm22 cd22 ct22 : Value} {od23 an23 : Option Addr} {sl23 : Array (Option Value)} {oc23 kV23 dc23 pm23 cd23 ct23 : Value} {od24 an24 : Option Addr} {sl24 : Array (Option Value)} {oc24 kV24 dc24 pm24 cd24 ct24 : Value} {od25 an25 : Option Addr} {sl25 : Array (Option Value)} {oc25 kV25 dc25 pm25 cd25 ct25 : Value} {od26 an26 : Option Addr} {sl26 : Array (Option Value)} {oc26 kV26 dc26 pm26 cd26 ct26 : Value} {od27 an27 : Option Addr} {sl27 : Array (Option Value)} {oc27 kV27 dc27 pm27 cd27 ct27 : Value} {od28 an28 : Option Addr} {sl28 : Array (Option Value)} {oc28 kV28 dc28 pm28 cd28 ct28 : Value} {od29 an29 : Option Addr} {sl29 : Array (Option Value)} {oc29 kV29 dc29 pm29 cd29 ct29 : Value} {od30 an30 : Option Addr} {sl30 : Array (Option Value)} {oc30 kV30 dc30 pm30 cd30 ct30 : Value} {od31 an31 : Option Addr} {sl31 : Array (Option Value)} {oc31 kV31 dc31 pm31 cd31 ct31 : Value} {od32 an32 : Option Addr} {sl32 : Array (Option Value)} {oc32 kV32 dc32 pm32 cd32 ct32 : Value} {q0 : Addr} {dd0 : Option Addr} {it0 : Array Value} {nn0 : Nat} {ss0 : Array (Option Value)} {q1 : Addr} {dd1 : Option Addr} {it1 : Array Value} {nn1 : Nat} {ss1 : Array (Option Value)} (X : K.In h) (G : h.Ns mainGlobals mg) (hfa : mg "law" = some (.ref fa))
    (a0 : PySem.W.nsIn K mainGlobals "rows_in" = some (some (.ref f0)))
    (l0 : K.lookup f0 = some ⟨oc0, od0, .func (PySem.W.fnOf "rows_in" "rows_in" (defArgs s_rows_in) (defBody s_rows_in) (defScope s_rows_in) .none kV0 dc0 pm0 an0 cd0 ct0), sl0⟩)
    (c0 : PySem.W.codeIn K cd0 "rows_in" = true)
    (k0 : PySem.W.keepIn K (.ref f0) = true)
    (a1 : PySem.W.nsIn K mainGlobals "def_of" = some (some (.ref f1)))
    (l1 : K.lookup f1 = some ⟨oc1, od1, .func (PySem.W.fnOf "def_of" "def_of" (defArgs s_def_of) (defBody s_def_of) (defScope s_def_of) .none kV1 dc1 pm1 an1 cd1 ct1), sl1⟩)
    (c1 : PySem.W.codeIn K cd1 "def_of" = true)
    (k1 : PySem.W.keepIn K (.ref f1) = true)
    (a2 : PySem.W.nsIn K mainGlobals "row_of" = some (some (.ref f2)))
    (l2 : K.lookup f2 = some ⟨oc2, od2, .func (PySem.W.fnOf "row_of" "row_of" (defArgs s_row_of) (defBody s_row_of) (defScope s_row_of) .none kV2 dc2 pm2 an2 cd2 ct2), sl2⟩)
    (c2 : PySem.W.codeIn K cd2 "row_of" = true)
    (k2 : PySem.W.keepIn K (.ref f2) = true)
    (a3 : PySem.W.nsIn K mainGlobals "words_along" = some (some (.ref f3)))
    (l3 : K.lookup f3 = some ⟨oc3, od3, .func (PySem.W.fnOf "words_along" "words_along" (defArgs s_words_along) (defBody s_words_along) (defScope s_words_along) .none kV3 dc3 pm3 an3 cd3 ct3), sl3⟩)
    (c3 : PySem.W.codeIn K cd3 "words_along" = true)
    (k3 : PySem.W.keepIn K (.ref f3) = true)
    (a4 : PySem.W.nsIn K mainGlobals "word_at" = some (some (.ref f4)))
    (l4 : K.lookup f4 = some ⟨oc4, od4, .func (PySem.W.fnOf "word_at" "word_at" (defArgs s_word_at) (defBody s_word_at) (defScope s_word_at) .none kV4 dc4 pm4 an4 cd4 ct4), sl4⟩)
    (c4 : PySem.W.codeIn K cd4 "word_at" = true)
    (k4 : PySem.W.keepIn K (.ref f4) = true)
    (a5 : PySem.W.nsIn K mainGlobals "places_from" = some (some (.ref f5)))
    (l5 : K.lookup f5 = some ⟨oc5, od5, .func (PySem.W.fnOf "places_from" "places_from" (defArgs s_places_from) (defBody s_places_from) (defScope s_places_from) .none kV5 dc5 pm5 an5 cd5 ct5), sl5⟩)
    (c5 : PySem.W.codeIn K cd5 "places_from" = true)
    (k5 : PySem.W.keepIn K (.ref f5) = true)
    (a6 : PySem.W.nsIn K mainGlobals "places_of" = some (some (.ref f6)))
    (l6 : K.lookup f6 = some ⟨oc6, od6, .func (PySem.W.fnOf "places_of" "places_of" (defArgs s_places_of) (defBody s_places_of) (defScope s_places_of) .none kV6 dc6 pm6 an6 cd6 ct6), sl6⟩)
    (c6 : PySem.W.codeIn K cd6 "places_of" = true)
    (k6 : PySem.W.keepIn K (.ref f6) = true)
    (a7 : PySem.W.nsIn K mainGlobals "next_word" = some (some (.ref f7)))
    (l7 : K.lookup f7 = some ⟨oc7, od7, .func (PySem.W.fnOf "next_word" "next_word" (defArgs s_next_word) (defBody s_next_word) (defScope s_next_word) .none kV7 dc7 pm7 an7 cd7 ct7), sl7⟩)
    (c7 : PySem.W.codeIn K cd7 "next_word" = true)
    (k7 : PySem.W.keepIn K (.ref f7) = true)
    (a8 : PySem.W.nsIn K mainGlobals "lets" = some (some (.ref f8)))
    (l8 : K.lookup f8 = some ⟨oc8, od8, .func (PySem.W.fnOf "lets" "lets" (defArgs s_lets) (defBody s_lets) (defScope s_lets) .none kV8 dc8 pm8 an8 cd8 ct8), sl8⟩)
    (c8 : PySem.W.codeIn K cd8 "lets" = true)
    (k8 : PySem.W.keepIn K (.ref f8) = true)
    (a9 : PySem.W.nsIn K mainGlobals "row_without" = some (some (.ref f9)))
    (l9 : K.lookup f9 = some ⟨oc9, od9, .func (PySem.W.fnOf "row_without" "row_without" (defArgs s_row_without) (defBody s_row_without) (defScope s_row_without) .none kV9 dc9 pm9 an9 cd9 ct9), sl9⟩)
    (c9 : PySem.W.codeIn K cd9 "row_without" = true)
    (k9 : PySem.W.keepIn K (.ref f9) = true)
    (a10 : PySem.W.nsIn K mainGlobals "without" = some (some (.ref f10)))
    (l10 : K.lookup f10 = some ⟨oc10, od10, .func (PySem.W.fnOf "without" "without" (defArgs s_without) (defBody s_without) (defScope s_without) .none kV10 dc10 pm10 an10 cd10 ct10), sl10⟩)
    (c10 : PySem.W.codeIn K cd10 "without" = true)
    (k10 : PySem.W.keepIn K (.ref f10) = true)
    (a11 : PySem.W.nsIn K mainGlobals "is_place" = some (some (.ref f11)))
    (l11 : K.lookup f11 = some ⟨oc11, od11, .func (PySem.W.fnOf "is_place" "is_place" (defArgs s_is_place) (defBody s_is_place) (defScope s_is_place) .none kV11 dc11 pm11 an11 cd11 ct11), sl11⟩)
    (c11 : PySem.W.codeIn K cd11 "is_place" = true)
    (k11 : PySem.W.keepIn K (.ref f11) = true)
    (a12 : PySem.W.nsIn K mainGlobals "turned" = some (some (.ref f12)))
    (l12 : K.lookup f12 = some ⟨oc12, od12, .func (PySem.W.fnOf "turned" "turned" (defArgs s_turned) (defBody s_turned) (defScope s_turned) .none kV12 dc12 pm12 an12 cd12 ct12), sl12⟩)
    (c12 : PySem.W.codeIn K cd12 "turned" = true)
    (k12 : PySem.W.keepIn K (.ref f12) = true)
    (a13 : PySem.W.nsIn K mainGlobals "_law_deck" = some (some (.ref f13)))
    (l13 : K.lookup f13 = some ⟨oc13, od13, .func (PySem.W.fnOf "_law_deck" "_law_deck" (defArgs s__law_deck) (defBody s__law_deck) (defScope s__law_deck) .none kV13 dc13 pm13 an13 cd13 ct13), sl13⟩)
    (c13 : PySem.W.codeIn K cd13 "_law_deck" = true)
    (k13 : PySem.W.keepIn K (.ref f13) = true)
    (a14 : PySem.W.nsIn K mainGlobals "_law_draw" = some (some (.ref f14)))
    (l14 : K.lookup f14 = some ⟨oc14, od14, .func (PySem.W.fnOf "_law_draw" "_law_draw" (defArgs s__law_draw) (defBody s__law_draw) (defScope s__law_draw) .none kV14 dc14 pm14 an14 cd14 ct14), sl14⟩)
    (c14 : PySem.W.codeIn K cd14 "_law_draw" = true)
    (k14 : PySem.W.keepIn K (.ref f14) = true)
    (a15 : PySem.W.nsIn K mainGlobals "_law_some" = some (some (.ref f15)))
    (l15 : K.lookup f15 = some ⟨oc15, od15, .func (PySem.W.fnOf "_law_some" "_law_some" (defArgs s__law_some) (defBody s__law_some) (defScope s__law_some) .none kV15 dc15 pm15 an15 cd15 ct15), sl15⟩)
    (c15 : PySem.W.codeIn K cd15 "_law_some" = true)
    (k15 : PySem.W.keepIn K (.ref f15) = true)
    (a16 : PySem.W.nsIn K mainGlobals "_law_names" = some (some (.ref f16)))
    (l16 : K.lookup f16 = some ⟨oc16, od16, .func (PySem.W.fnOf "_law_names" "_law_names" (defArgs s__law_names) (defBody s__law_names) (defScope s__law_names) .none kV16 dc16 pm16 an16 cd16 ct16), sl16⟩)
    (c16 : PySem.W.codeIn K cd16 "_law_names" = true)
    (k16 : PySem.W.keepIn K (.ref f16) = true)
    (a17 : PySem.W.nsIn K mainGlobals "_law_boxes" = some (some (.ref f17)))
    (l17 : K.lookup f17 = some ⟨oc17, od17, .func (PySem.W.fnOf "_law_boxes" "_law_boxes" (defArgs s__law_boxes) (defBody s__law_boxes) (defScope s__law_boxes) .none kV17 dc17 pm17 an17 cd17 ct17), sl17⟩)
    (c17 : PySem.W.codeIn K cd17 "_law_boxes" = true)
    (k17 : PySem.W.keepIn K (.ref f17) = true)
    (a18 : PySem.W.nsIn K mainGlobals "_law_one_of" = some (some (.ref f18)))
    (l18 : K.lookup f18 = some ⟨oc18, od18, .func (PySem.W.fnOf "_law_one_of" "_law_one_of" (defArgs s__law_one_of) (defBody s__law_one_of) (defScope s__law_one_of) .none kV18 dc18 pm18 an18 cd18 ct18), sl18⟩)
    (c18 : PySem.W.codeIn K cd18 "_law_one_of" = true)
    (k18 : PySem.W.keepIn K (.ref f18) = true)
    (a19 : PySem.W.nsIn K mainGlobals "_law_picked" = some (some (.ref f19)))
    (l19 : K.lookup f19 = some ⟨oc19, od19, .func (PySem.W.fnOf "_law_picked" "_law_picked" (defArgs s__law_picked) (defBody s__law_picked) (defScope s__law_picked) .none kV19 dc19 pm19 an19 cd19 ct19), sl19⟩)
    (c19 : PySem.W.codeIn K cd19 "_law_picked" = true)
    (k19 : PySem.W.keepIn K (.ref f19) = true)
    (a20 : PySem.W.nsIn K mainGlobals "_law_plain" = some (some (.ref f20)))
    (l20 : K.lookup f20 = some ⟨oc20, od20, .func (PySem.W.fnOf "_law_plain" "_law_plain" (defArgs s__law_plain) (defBody s__law_plain) (defScope s__law_plain) .none kV20 dc20 pm20 an20 cd20 ct20), sl20⟩)
    (c20 : PySem.W.codeIn K cd20 "_law_plain" = true)
    (k20 : PySem.W.keepIn K (.ref f20) = true)
    (a21 : PySem.W.nsIn K mainGlobals "_law_dressed" = some (some (.ref f21)))
    (l21 : K.lookup f21 = some ⟨oc21, od21, .func (PySem.W.fnOf "_law_dressed" "_law_dressed" (defArgs s__law_dressed) (defBody s__law_dressed) (defScope s__law_dressed) .none kV21 dc21 pm21 an21 cd21 ct21), sl21⟩)
    (c21 : PySem.W.codeIn K cd21 "_law_dressed" = true)
    (k21 : PySem.W.keepIn K (.ref f21) = true)
    (a22 : PySem.W.nsIn K mainGlobals "_law_leading" = some (some (.ref f22)))
    (l22 : K.lookup f22 = some ⟨oc22, od22, .func (PySem.W.fnOf "_law_leading" "_law_leading" (defArgs s__law_leading) (defBody s__law_leading) (defScope s__law_leading) .none kV22 dc22 pm22 an22 cd22 ct22), sl22⟩)
    (c22 : PySem.W.codeIn K cd22 "_law_leading" = true)
    (k22 : PySem.W.keepIn K (.ref f22) = true)
    (a23 : PySem.W.nsIn K mainGlobals "_law_grown" = some (some (.ref f23)))
    (l23 : K.lookup f23 = some ⟨oc23, od23, .func (PySem.W.fnOf "_law_grown" "_law_grown" (defArgs s__law_grown) (defBody s__law_grown) (defScope s__law_grown) .none kV23 dc23 pm23 an23 cd23 ct23), sl23⟩)
    (c23 : PySem.W.codeIn K cd23 "_law_grown" = true)
    (k23 : PySem.W.keepIn K (.ref f23) = true)
    (a24 : PySem.W.nsIn K mainGlobals "_law_program" = some (some (.ref f24)))
    (l24 : K.lookup f24 = some ⟨oc24, od24, .func (PySem.W.fnOf "_law_program" "_law_program" (defArgs s__law_program) (defBody s__law_program) (defScope s__law_program) .none kV24 dc24 pm24 an24 cd24 ct24), sl24⟩)
    (c24 : PySem.W.codeIn K cd24 "_law_program" = true)
    (k24 : PySem.W.keepIn K (.ref f24) = true)
    (a25 : PySem.W.nsIn K mainGlobals "_law_spots" = some (some (.ref f25)))
    (l25 : K.lookup f25 = some ⟨oc25, od25, .func (PySem.W.fnOf "_law_spots" "_law_spots" (defArgs s__law_spots) (defBody s__law_spots) (defScope s__law_spots) .none kV25 dc25 pm25 an25 cd25 ct25), sl25⟩)
    (c25 : PySem.W.codeIn K cd25 "_law_spots" = true)
    (k25 : PySem.W.keepIn K (.ref f25) = true)
    (a26 : PySem.W.nsIn K mainGlobals "_law_all_spots" = some (some (.ref f26)))
    (l26 : K.lookup f26 = some ⟨oc26, od26, .func (PySem.W.fnOf "_law_all_spots" "_law_all_spots" (defArgs s__law_all_spots) (defBody s__law_all_spots) (defScope s__law_all_spots) .none kV26 dc26 pm26 an26 cd26 ct26), sl26⟩)
    (c26 : PySem.W.codeIn K cd26 "_law_all_spots" = true)
    (k26 : PySem.W.keepIn K (.ref f26) = true)
    (a27 : PySem.W.nsIn K mainGlobals "_law_cut" = some (some (.ref f27)))
    (l27 : K.lookup f27 = some ⟨oc27, od27, .func (PySem.W.fnOf "_law_cut" "_law_cut" (defArgs s__law_cut) (defBody s__law_cut) (defScope s__law_cut) .none kV27 dc27 pm27 an27 cd27 ct27), sl27⟩)
    (c27 : PySem.W.codeIn K cd27 "_law_cut" = true)
    (k27 : PySem.W.keepIn K (.ref f27) = true)
    (a28 : PySem.W.nsIn K mainGlobals "_law_without" = some (some (.ref f28)))
    (l28 : K.lookup f28 = some ⟨oc28, od28, .func (PySem.W.fnOf "_law_without" "_law_without" (defArgs s__law_without) (defBody s__law_without) (defScope s__law_without) .none kV28 dc28 pm28 an28 cd28 ct28), sl28⟩)
    (c28 : PySem.W.codeIn K cd28 "_law_without" = true)
    (k28 : PySem.W.keepIn K (.ref f28) = true)
    (a29 : PySem.W.nsIn K mainGlobals "_law_told" = some (some (.ref f29)))
    (l29 : K.lookup f29 = some ⟨oc29, od29, .func (PySem.W.fnOf "_law_told" "_law_told" (defArgs s__law_told) (defBody s__law_told) (defScope s__law_told) .none kV29 dc29 pm29 an29 cd29 ct29), sl29⟩)
    (c29 : PySem.W.codeIn K cd29 "_law_told" = true)
    (k29 : PySem.W.keepIn K (.ref f29) = true)
    (a30 : PySem.W.nsIn K mainGlobals "_law_row" = some (some (.ref f30)))
    (l30 : K.lookup f30 = some ⟨oc30, od30, .func (PySem.W.fnOf "_law_row" "_law_row" (defArgs s__law_row) (defBody s__law_row) (defScope s__law_row) .none kV30 dc30 pm30 an30 cd30 ct30), sl30⟩)
    (c30 : PySem.W.codeIn K cd30 "_law_row" = true)
    (k30 : PySem.W.keepIn K (.ref f30) = true)
    (a31 : PySem.W.nsIn K mainGlobals "_law_lets_plain" = some (some (.ref f31)))
    (l31 : K.lookup f31 = some ⟨oc31, od31, .func (PySem.W.fnOf "_law_lets_plain" "_law_lets_plain" (defArgs s__law_lets_plain) (defBody s__law_lets_plain) (defScope s__law_lets_plain) .none kV31 dc31 pm31 an31 cd31 ct31), sl31⟩)
    (c31 : PySem.W.codeIn K cd31 "_law_lets_plain" = true)
    (k31 : PySem.W.keepIn K (.ref f31) = true)
    (a32 : PySem.W.nsIn K mainGlobals "law" = some (some (.ref f32)))
    (l32 : K.lookup f32 = some ⟨oc32, od32, .func (PySem.W.fnOf "law" "law" (defArgs s_law) (defBody s_law) (defScope s_law) .none kV32 dc32 pm32 an32 cd32 ct32), sl32⟩)
    (c32 : PySem.W.codeIn K cd32 "law" = true)
    (k32 : PySem.W.keepIn K (.ref f32) = true)
    (z0 : PySem.W.nsIn K mainGlobals "ValueError" = some none)
    (z1 : PySem.W.nsIn K mainGlobals "bool" = some none)
    (z2 : PySem.W.nsIn K mainGlobals "enumerate" = some none)
    (z3 : PySem.W.nsIn K mainGlobals "int" = some none)
    (z4 : PySem.W.nsIn K mainGlobals "isinstance" = some none)
    (z5 : PySem.W.nsIn K mainGlobals "len" = some none)
    (z6 : PySem.W.nsIn K mainGlobals "list" = some none)
    (z7 : PySem.W.nsIn K mainGlobals "min" = some none)
    (z8 : PySem.W.nsIn K mainGlobals "range" = some none)
    (z9 : PySem.W.nsIn K mainGlobals "str" = some none)
    (z10 : PySem.W.nsIn K mainGlobals "sum" = some none)
    (z11 : PySem.W.nsIn K mainGlobals "tuple" = some none)
    (y0 : PySem.W.nsIn K mainGlobals "MAKERS" = some (some (.ref q0)))
    (yl0 : K.lookup q0 = some ⟨.type "tuple", dd0, .seq it0 nn0, ss0⟩)
    (yv0 : Vals [V.str "number", V.str "copy", V.str "mix", V.str "open"] it0.toList)
    (y1 : PySem.W.nsIn K mainGlobals "RULES" = some (some (.ref q1)))
    (yl1 : K.lookup q1 = some ⟨.type "tuple", dd1, .seq it1 nn1, ss1⟩)
    (yv1 : Vals [V.str "same", V.str "twice", V.str "covered", V.str "unread"] it1.toList)
    (en0 : PySem.W.nsIn K mainGlobals "NoAnswer" = some (some (.ref E0)))
    (en1 : PySem.W.nsIn K mainGlobals "NoCode" = some (some (.ref E1)))
    (en2 : PySem.W.nsIn K mainGlobals "NoRow" = some (some (.ref E2)))
    (en3 : PySem.W.nsIn K mainGlobals "NoText" = some (some (.ref E3)))
    (en4 : PySem.W.nsIn K mainGlobals "NoTurn" = some (some (.ref E4)))
    (en5 : PySem.W.nsIn K mainGlobals "TooLong" = some (some (.ref E5)))
    (en6 : PySem.W.nsIn K mainGlobals "WipeError" = some (some (.ref E6)))
    (gaX4 : PySem.W.findIn K (.ref E4) "__getattribute__" = some (some (.builtin "BaseException.__getattribute__")))
    (ggX4 : PySem.W.findIn K (.ref E4) "__getattr__" = some none)
    (sbX4 : PySem.W.subIn K (.ref E4) (.type "BaseException") = some true)
    (hxX4 : PySem.W.hasDictIn K E4 = true)
    (caX4 : PySem.W.findIn K (.ref E4) "__class__" = some (some (.builtin "object.__class__")))
    (moX4 : PySem.W.mroIn K E4 (.type "object") = some true)
    (cnX4 : PySem.W.specialIn K (.builtin "object.__class__") "__get__" = some (some (.builtin "getset_descriptor.__get__")))
    (ctX4 : PySem.W.takesIn K (.builtin "object.__class__") = some true)
    (tyX4 : PySem.W.typeIn K (.ref E4) = some (.type "type"))
    (kpX4 : PySem.W.keepIn K (.ref E4) = true)
    (exX4 : PySem.W.excIn K E4 [.type "ValueError", .type "Exception", .type "BaseException", .type "object"] "ValueError.__new__" = true)
    (hs0 : PySem.W.subIn K (.ref E6) (.type "BaseException") = some true)
    (hd0x : PySem.W.hasDictIn K E6 = true)
    (ht0 : PySem.W.typeIn K (.ref E6) = some (.type "type"))
    (hi0_0 : PySem.W.subIn K (.ref E4) (.ref E6) = some true)
    (ki0 : PySem.W.kitAny K (.ref E4) [.ref E0, .ref E1, .ref E2, .ref E3, .ref E5] = some false)
    (ki1 : PySem.W.kitOne K (.ref E4) (.type "ValueError") = some true)
    (ki2 : PySem.W.kitOne K (.ref E4) (.ref E4) = some true) :
    ∃ fd : FuncData, (∀ (s : Shared) (v : Value), BindsTo s fd ⟨[v], []⟩ [("_law_script", v)]) ∧ ∀ base : Heap, K.In base → base.Ns mainGlobals mg → FnOk l.prog w K mg base CX0 21 fa fd ["_law_script"] (spF K 1 f_law) := by
  have e := hfa.symm.trans (PySem.W.mg_of X G a32)
  cases e
  have F0 := fun_mk (st := s_rows_in) l0 c0 k0
  have b0 := F0.binds (ps := ["word"]) fun _ _ _ _ _ _ us hl => match us, hl with | [_], _ => rfl
  have F1 := fun_mk (st := s_def_of) l1 c1 k1
  have b1 := F1.binds (ps := ["program", "name"]) fun _ _ _ _ _ _ us hl => match us, hl with | [_, _], _ => rfl
  have F2 := fun_mk (st := s_row_of) l2 c2 k2
  have b2 := F2.binds (ps := ["program", "name"]) fun _ _ _ _ _ _ us hl => match us, hl with | [_, _], _ => rfl
  have F3 := fun_mk (st := s_words_along) l3 c3 k3
  have b3 := F3.binds (ps := ["program", "place"]) fun _ _ _ _ _ _ us hl => match us, hl with | [_, _], _ => rfl
  have F4 := fun_mk (st := s_word_at) l4 c4 k4
  have b4 := F4.binds (ps := ["program", "place"]) fun _ _ _ _ _ _ us hl => match us, hl with | [_, _], _ => rfl
  have F5 := fun_mk (st := s_places_from) l5 c5 k5
  have b5 := F5.binds (ps := ["row", "ahead"]) fun _ _ _ _ _ _ us hl => match us, hl with | [_, _], _ => rfl
  have F6 := fun_mk (st := s_places_of) l6 c6 k6
  have b6 := F6.binds (ps := ["program", "name"]) fun _ _ _ _ _ _ us hl => match us, hl with | [_, _], _ => rfl
  have F7 := fun_mk (st := s_next_word) l7 c7 k7
  have b7 := F7.binds (ps := ["program", "place"]) fun _ _ _ _ _ _ us hl => match us, hl with | [_, _], _ => rfl
  have F8 := fun_mk (st := s_lets) l8 c8 k8
  have b8 := F8.binds (ps := ["program", "place", "rule", "known"]) fun _ _ _ _ _ _ us hl => match us, hl with | [_, _, _, _], _ => rfl
  have F9 := fun_mk (st := s_row_without) l9 c9 k9
  have b9 := F9.binds (ps := ["row", "numbers"]) fun _ _ _ _ _ _ us hl => match us, hl with | [_, _], _ => rfl
  have F10 := fun_mk (st := s_without) l10 c10 k10
  have b10 := F10.binds (ps := ["program", "place"]) fun _ _ _ _ _ _ us hl => match us, hl with | [_, _], _ => rfl
  have F11 := fun_mk (st := s_is_place) l11 c11 k11
  have b11 := F11.binds (ps := ["program", "thing"]) fun _ _ _ _ _ _ us hl => match us, hl with | [_, _], _ => rfl
  have F12 := fun_mk (st := s_turned) l12 c12 k12
  have b12 := F12.binds (ps := ["program", "turn"]) fun _ _ _ _ _ _ us hl => match us, hl with | [_, _], _ => rfl
  have F13 := fun_mk (st := s__law_deck) l13 c13 k13
  have b13 := F13.binds (ps := ["_law_script"]) fun _ _ _ _ _ _ us hl => match us, hl with | [_], _ => rfl
  have F14 := fun_mk (st := s__law_draw) l14 c14 k14
  have b14 := F14.binds (ps := ["_law_deck_here", "_law_most"]) fun _ _ _ _ _ _ us hl => match us, hl with | [_, _], _ => rfl
  have F15 := fun_mk (st := s__law_some) l15 c15 k15
  have b15 := F15.binds (ps := ["_law_deck_here", "_law_few", "_law_most"]) fun _ _ _ _ _ _ us hl => match us, hl with | [_, _, _], _ => rfl
  have F16 := fun_mk (st := s__law_names) l16 c16 k16
  have b16 := F16.binds (ps := ["_law_deck_here", "_law_many"]) fun _ _ _ _ _ _ us hl => match us, hl with | [_, _], _ => rfl
  have F17 := fun_mk (st := s__law_boxes) l17 c17 k17
  have b17 := F17.binds (ps := ["_law_deck_here", "_law_names_here"]) fun _ _ _ _ _ _ us hl => match us, hl with | [_, _], _ => rfl
  have F18 := fun_mk (st := s__law_one_of) l18 c18 k18
  have b18 := F18.binds (ps := ["_law_deck_here", "_law_some_here"]) fun _ _ _ _ _ _ us hl => match us, hl with | [_, _], _ => rfl
  have F19 := fun_mk (st := s__law_picked) l19 c19 k19
  have b19 := F19.binds (ps := ["_law_deck_here", "_law_some_here", "_law_many"]) fun _ _ _ _ _ _ us hl => match us, hl with | [_, _, _], _ => rfl
  have F20 := fun_mk (st := s__law_plain) l20 c20 k20
  have b20 := F20.binds (ps := ["_law_deck_here", "_law_case"]) fun _ _ _ _ _ _ us hl => match us, hl with | [_, _], _ => rfl
  have F21 := fun_mk (st := s__law_dressed) l21 c21 k21
  have b21 := F21.binds (ps := ["_law_deck_here", "_law_boxes_here", "_law_word"]) fun _ _ _ _ _ _ us hl => match us, hl with | [_, _, _], _ => rfl
  have F22 := fun_mk (st := s__law_leading) l22 c22 k22
  have b22 := F22.binds (ps := ["_law_deck_here", "_law_case", "_law_deep", "_law_loops"]) fun _ _ _ _ _ _ us hl => match us, hl with | [_, _, _, _], _ => rfl
  have F23 := fun_mk (st := s__law_grown) l23 c23 k23
  have b23 := F23.binds (ps := ["_law_deck_here", "_law_case", "_law_deep", "_law_loops", "_law_most"]) fun _ _ _ _ _ _ us hl => match us, hl with | [_, _, _, _, _], _ => rfl
  have F24 := fun_mk (st := s__law_program) l24 c24 k24
  have b24 := F24.binds (ps := ["_law_deck_here", "_law_names_here", "_law_many", "_law_most"]) fun _ _ _ _ _ _ us hl => match us, hl with | [_, _, _, _], _ => rfl
  have F25 := fun_mk (st := s__law_spots) l25 c25 k25
  have b25 := F25.binds (ps := ["_law_row_here", "_law_head"]) fun _ _ _ _ _ _ us hl => match us, hl with | [_, _], _ => rfl
  have F26 := fun_mk (st := s__law_all_spots) l26 c26 k26
  have b26 := F26.binds (ps := ["_law_program_here"]) fun _ _ _ _ _ _ us hl => match us, hl with | [_], _ => rfl
  have F27 := fun_mk (st := s__law_cut) l27 c27 k27
  have b27 := F27.binds (ps := ["_law_row_here", "_law_numbers"]) fun _ _ _ _ _ _ us hl => match us, hl with | [_, _], _ => rfl
  have F28 := fun_mk (st := s__law_without) l28 c28 k28
  have b28 := F28.binds (ps := ["_law_program_here", "_law_place"]) fun _ _ _ _ _ _ us hl => match us, hl with | [_, _], _ => rfl
  have F29 := fun_mk (st := s__law_told) l29 c29 k29
  have b29 := F29.binds (ps := ["_law_program_here", "_law_turn"]) fun _ _ _ _ _ _ us hl => match us, hl with | [_, _], _ => rfl
  have F30 := fun_mk (st := s__law_row) l30 c30 k30
  have b30 := F30.binds (ps := ["_law_program_here", "_law_place"]) fun _ _ _ _ _ _ us hl => match us, hl with | [_, _], _ => rfl
  have F31 := fun_mk (st := s__law_lets_plain) l31 c31 k31
  have b31 := F31.binds (ps := ["_law_program_here", "_law_place", "_law_rule"]) fun _ _ _ _ _ _ us hl => match us, hl with | [_, _, _], _ => rfl
  have F32 := fun_mk (st := s_law) l32 c32 k32
  have b32 := F32.binds (ps := ["_law_script"]) fun _ _ _ _ _ _ us hl => match us, hl with | [_], _ => rfl
  have vl0 := yv0.length
  have hq0 : ∀ H, Rp K H (.ref q0) c_MAKERS := fun H => .tup (.inr ⟨_, _, _, yl0, rfl, rfl, by rw [← Array.length_toList, ← vl0]; decide, yv0⟩) (Rps.of_strs ["number", "copy", "mix", "open"])
  have vl1 := yv1.length
  have hq1 : ∀ H, Rp K H (.ref q1) c_RULES := fun H => .tup (.inr ⟨_, _, _, yl1, rfl, rfl, by rw [← Array.length_toList, ← vl1]; decide, yv1⟩) (Rps.of_strs ["same", "twice", "covered", "unread"])
  have T : Tx w K mg := ⟨_, _, F0, b0, PySem.W.mg_of X G a0, _, _, F1, b1, PySem.W.mg_of X G a1, _, _, F2, b2, PySem.W.mg_of X G a2, _, _, F3, b3, PySem.W.mg_of X G a3, _, _, F4, b4, PySem.W.mg_of X G a4, _, _, F5, b5, PySem.W.mg_of X G a5, _, _, F6, b6, PySem.W.mg_of X G a6, _, _, F7, b7, PySem.W.mg_of X G a7, _, _, F8, b8, PySem.W.mg_of X G a8, _, _, F9, b9, PySem.W.mg_of X G a9, _, _, F10, b10, PySem.W.mg_of X G a10, _, _, F11, b11, PySem.W.mg_of X G a11, _, _, F12, b12, PySem.W.mg_of X G a12, _, _, F13, b13, PySem.W.mg_of X G a13, _, _, F14, b14, PySem.W.mg_of X G a14, _, _, F15, b15, PySem.W.mg_of X G a15, _, _, F16, b16, PySem.W.mg_of X G a16, _, _, F17, b17, PySem.W.mg_of X G a17, _, _, F18, b18, PySem.W.mg_of X G a18, _, _, F19, b19, PySem.W.mg_of X G a19, _, _, F20, b20, PySem.W.mg_of X G a20, _, _, F21, b21, PySem.W.mg_of X G a21, _, _, F22, b22, PySem.W.mg_of X G a22, _, _, F23, b23, PySem.W.mg_of X G a23, _, _, F24, b24, PySem.W.mg_of X G a24, _, _, F25, b25, PySem.W.mg_of X G a25, _, _, F26, b26, PySem.W.mg_of X G a26, _, _, F27, b27, PySem.W.mg_of X G a27, _, _, F28, b28, PySem.W.mg_of X G a28, _, _, F29, b29, PySem.W.mg_of X G a29, _, _, F30, b30, PySem.W.mg_of X G a30, _, _, F31, b31, PySem.W.mg_of X G a31, _, _, F32, b32, PySem.W.mg_of X G a32, PySem.W.mg_none_of X G z0, PySem.W.mg_none_of X G z1, PySem.W.mg_none_of X G z2, PySem.W.mg_none_of X G z3, PySem.W.mg_none_of X G z4, PySem.W.mg_none_of X G z5, PySem.W.mg_none_of X G z6, PySem.W.mg_none_of X G z7, PySem.W.mg_none_of X G z8, PySem.W.mg_none_of X G z9, PySem.W.mg_none_of X G z10, PySem.W.mg_none_of X G z11, _, (.ref q0), PySem.W.mg_of X G y0, rfl, hq0, _, (.ref q1), PySem.W.mg_of X G y1, rfl, hq1, E0, clsA_of en0, PySem.W.mg_of X G en0, E1, clsA_of en1, PySem.W.mg_of X G en1, E2, clsA_of en2, PySem.W.mg_of X G en2, E3, clsA_of en3, PySem.W.mg_of X G en3, E4, clsA_of en4, PySem.W.mg_of X G en4, E5, clsA_of en5, PySem.W.mg_of X G en5, E6, clsA_of en6, PySem.W.mg_of X G en6, ⟨gaX4, ggX4, sbX4, hxX4, caX4, cnX4, ctX4, moX4⟩, exX4, kpX4, sbX4, tyX4, (hitB_cons (clsA_of en4) (PySem.W.exm_ref hs0 hd0x ht0 hi0_0) hitB_nil), ki0, ki1, ki2⟩
  exact ⟨_, fun s v => .of_eq rfl, fun base _ _ => ok_law ⟨_, _, F0, b0, PySem.W.mg_of X G a0, _, _, F1, b1, PySem.W.mg_of X G a1, _, _, F2, b2, PySem.W.mg_of X G a2, _, _, F3, b3, PySem.W.mg_of X G a3, _, _, F4, b4, PySem.W.mg_of X G a4, _, _, F5, b5, PySem.W.mg_of X G a5, _, _, F6, b6, PySem.W.mg_of X G a6, _, _, F7, b7, PySem.W.mg_of X G a7, _, _, F8, b8, PySem.W.mg_of X G a8, _, _, F9, b9, PySem.W.mg_of X G a9, _, _, F10, b10, PySem.W.mg_of X G a10, _, _, F11, b11, PySem.W.mg_of X G a11, _, _, F12, b12, PySem.W.mg_of X G a12, _, _, F13, b13, PySem.W.mg_of X G a13, _, _, F14, b14, PySem.W.mg_of X G a14, _, _, F15, b15, PySem.W.mg_of X G a15, _, _, F16, b16, PySem.W.mg_of X G a16, _, _, F17, b17, PySem.W.mg_of X G a17, _, _, F18, b18, PySem.W.mg_of X G a18, _, _, F19, b19, PySem.W.mg_of X G a19, _, _, F20, b20, PySem.W.mg_of X G a20, _, _, F21, b21, PySem.W.mg_of X G a21, _, _, F22, b22, PySem.W.mg_of X G a22, _, _, F23, b23, PySem.W.mg_of X G a23, _, _, F24, b24, PySem.W.mg_of X G a24, _, _, F25, b25, PySem.W.mg_of X G a25, _, _, F26, b26, PySem.W.mg_of X G a26, _, _, F27, b27, PySem.W.mg_of X G a27, _, _, F28, b28, PySem.W.mg_of X G a28, _, _, F29, b29, PySem.W.mg_of X G a29, _, _, F30, b30, PySem.W.mg_of X G a30, _, _, F31, b31, PySem.W.mg_of X G a31, _, _, F32, b32, PySem.W.mg_of X G a32, PySem.W.mg_none_of X G z0, PySem.W.mg_none_of X G z1, PySem.W.mg_none_of X G z2, PySem.W.mg_none_of X G z3, PySem.W.mg_none_of X G z4, PySem.W.mg_none_of X G z5, PySem.W.mg_none_of X G z6, PySem.W.mg_none_of X G z7, PySem.W.mg_none_of X G z8, PySem.W.mg_none_of X G z9, PySem.W.mg_none_of X G z10, PySem.W.mg_none_of X G z11, _, (.ref q0), PySem.W.mg_of X G y0, rfl, hq0, _, (.ref q1), PySem.W.mg_of X G y1, rfl, hq1, E0, clsA_of en0, PySem.W.mg_of X G en0, E1, clsA_of en1, PySem.W.mg_of X G en1, E2, clsA_of en2, PySem.W.mg_of X G en2, E3, clsA_of en3, PySem.W.mg_of X G en3, E4, clsA_of en4, PySem.W.mg_of X G en4, E5, clsA_of en5, PySem.W.mg_of X G en5, E6, clsA_of en6, PySem.W.mg_of X G en6, ⟨gaX4, ggX4, sbX4, hxX4, caX4, cnX4, ctX4, moX4⟩, exX4, kpX4, sbX4, tyX4, (hitB_cons (clsA_of en4) (PySem.W.exm_ref hs0 hd0x ht0 hi0_0) hitB_nil), ki0, ki1, ki2⟩⟩
theorem sp_law (hg : Good) {K : Frag} {H : Hp} {a : Addr} {ns : List Int} (hl : ns.length ≤ 63) (hS : SqL K H a (ns.map V.int)) : spF K 1 f_law [.ref a] H (fun v _ => v = .bl true) fun _ _ _ => False := by
  obtain ⟨δ, hδ⟩ := hg ns hl
  refine ⟨rfl, fun _ => none, ⟨[], H⟩, [.sh (.list (ns.map PyData.int))], [], ?_, .cons (.sh (.lst hS (Rps.of_ints ns))) .nil, ?_⟩
  · exact {
      ex := Ex.refl H
      fg := fun a o q => nomatch q
      len := rfl
      rl := rfl
      sl := fun i c q _ => by simp at q
      ob := fun i c q _ => by simp at q
      nd := List.nodup_nil
      al := fun a ha => by simp at ha
      nt := fun a xs _ => ⟨by simp, rfl⟩
      gx := fun a fs q => nomatch q
      fz := fun l o q _ => by simp at q }
  · rw [hδ]
    intro g' H' e r v rv
    cases rv with
    | sh h =>
      cases h
      rfl
end Ds.K60
open PySem PySem.W PyProof.Rows
set_option maxHeartbeats 0 in
theorem PySem.Challenge.cw_wipeways_k60_same_and_twice_holds : PySem.Challenge.rw_wipeways_k60_same_and_twice.Holds := by
  w_on; o_law; k_head; (case hw => w_witness2)
  k_fill
  refine L2.walk_of (l := PySem.Challenge.rw_wipeways_k60_same_and_twice) (n := 63) (k := 21) (x := "_law_script") (CX := fun _ => L2.CX0) (sp := fun w => Ds.spF _ 1 Ds.K60.f_law) rfl (by decide) rfl ⟨rfl, by decide, by decide⟩ (fun w h Y => PySem.W.kIn_of Y) ?F (fun _ _ a ns hl _ hS => Ds.K60.sp_law Ds.K60.good hl hS) (fun _ _ _ _ _ h => h)
  case F =>
    intro w mg fa h KX G hmg
    refine' Ds.K60.all_mk KX G hmg ?a0 ?l0 ?c0 ?k0 ?a1 ?l1 ?c1 ?k1 ?a2 ?l2 ?c2 ?k2 ?a3 ?l3 ?c3 ?k3 ?a4 ?l4 ?c4 ?k4 ?a5 ?l5 ?c5 ?k5 ?a6 ?l6 ?c6 ?k6 ?a7 ?l7 ?c7 ?k7 ?a8 ?l8 ?c8 ?k8 ?a9 ?l9 ?c9 ?k9 ?a10 ?l10 ?c10 ?k10 ?a11 ?l11 ?c11 ?k11 ?a12 ?l12 ?c12 ?k12 ?a13 ?l13 ?c13 ?k13 ?a14 ?l14 ?c14 ?k14 ?a15 ?l15 ?c15 ?k15 ?a16 ?l16 ?c16 ?k16 ?a17 ?l17 ?c17 ?k17 ?a18 ?l18 ?c18 ?k18 ?a19 ?l19 ?c19 ?k19 ?a20 ?l20 ?c20 ?k20 ?a21 ?l21 ?c21 ?k21 ?a22 ?l22 ?c22 ?k22 ?a23 ?l23 ?c23 ?k23 ?a24 ?l24 ?c24 ?k24 ?a25 ?l25 ?c25 ?k25 ?a26 ?l26 ?c26 ?k26 ?a27 ?l27 ?c27 ?k27 ?a28 ?l28 ?c28 ?k28 ?a29 ?l29 ?c29 ?k29 ?a30 ?l30 ?c30 ?k30 ?a31 ?l31 ?c31 ?k31 ?a32 ?l32 ?c32 ?k32 ?z0 ?z1 ?z2 ?z3 ?z4 ?z5 ?z6 ?z7 ?z8 ?z9 ?z10 ?z11 ?y0 ?yl0 ?yv0 ?y1 ?yl1 ?yv1 ?en0 ?en1 ?en2 ?en3 ?en4 ?en5 ?en6 ?gaX4 ?ggX4 ?sbX4 ?hxX4 ?caX4 ?moX4 ?cnX4 ?ctX4 ?tyX4 ?kpX4 ?exX4 ?hs0 ?hd0x ?ht0 ?hi0_0 ?ki0 ?ki1 ?ki2
    (case a0 => k_is)
    (case l0 => k_is)
    (case c0 => k_is)
    (case k0 => k_is)
    (case a1 => k_is)
    (case l1 => k_is)
    (case c1 => k_is)
    (case k1 => k_is)
    (case a2 => k_is)
    (case l2 => k_is)
    (case c2 => k_is)
    (case k2 => k_is)
    (case a3 => k_is)
    (case l3 => k_is)
    (case c3 => k_is)
    (case k3 => k_is)
    (case a4 => k_is)
    (case l4 => k_is)
    (case c4 => k_is)
    (case k4 => k_is)
    (case a5 => k_is)
    (case l5 => k_is)
    (case c5 => k_is)
    (case k5 => k_is)
    (case a6 => k_is)
    (case l6 => k_is)
    (case c6 => k_is)
    (case k6 => k_is)
    (case a7 => k_is)
    (case l7 => k_is)
    (case c7 => k_is)
    (case k7 => k_is)
    (case a8 => k_is)
    (case l8 => k_is)
    (case c8 => k_is)
    (case k8 => k_is)
    (case a9 => k_is)
    (case l9 => k_is)
    (case c9 => k_is)
    (case k9 => k_is)
    (case a10 => k_is)
    (case l10 => k_is)
    (case c10 => k_is)
    (case k10 => k_is)
    (case a11 => k_is)
    (case l11 => k_is)
    (case c11 => k_is)
    (case k11 => k_is)
    (case a12 => k_is)
    (case l12 => k_is)
    (case c12 => k_is)
    (case k12 => k_is)
    (case a13 => k_is)
    (case l13 => k_is)
    (case c13 => k_is)
    (case k13 => k_is)
    (case a14 => k_is)
    (case l14 => k_is)
    (case c14 => k_is)
    (case k14 => k_is)
    (case a15 => k_is)
    (case l15 => k_is)
    (case c15 => k_is)
    (case k15 => k_is)
    (case a16 => k_is)
    (case l16 => k_is)
    (case c16 => k_is)
    (case k16 => k_is)
    (case a17 => k_is)
    (case l17 => k_is)
    (case c17 => k_is)
    (case k17 => k_is)
    (case a18 => k_is)
    (case l18 => k_is)
    (case c18 => k_is)
    (case k18 => k_is)
    (case a19 => k_is)
    (case l19 => k_is)
    (case c19 => k_is)
    (case k19 => k_is)
    (case a20 => k_is)
    (case l20 => k_is)
    (case c20 => k_is)
    (case k20 => k_is)
    (case a21 => k_is)
    (case l21 => k_is)
    (case c21 => k_is)
    (case k21 => k_is)
    (case a22 => k_is)
    (case l22 => k_is)
    (case c22 => k_is)
    (case k22 => k_is)
    (case a23 => k_is)
    (case l23 => k_is)
    (case c23 => k_is)
    (case k23 => k_is)
    (case a24 => k_is)
    (case l24 => k_is)
    (case c24 => k_is)
    (case k24 => k_is)
    (case a25 => k_is)
    (case l25 => k_is)
    (case c25 => k_is)
    (case k25 => k_is)
    (case a26 => k_is)
    (case l26 => k_is)
    (case c26 => k_is)
    (case k26 => k_is)
    (case a27 => k_is)
    (case l27 => k_is)
    (case c27 => k_is)
    (case k27 => k_is)
    (case a28 => k_is)
    (case l28 => k_is)
    (case c28 => k_is)
    (case k28 => k_is)
    (case a29 => k_is)
    (case l29 => k_is)
    (case c29 => k_is)
    (case k29 => k_is)
    (case a30 => k_is)
    (case l30 => k_is)
    (case c30 => k_is)
    (case k30 => k_is)
    (case a31 => k_is)
    (case l31 => k_is)
    (case c31 => k_is)
    (case k31 => k_is)
    (case a32 => k_is)
    (case l32 => k_is)
    (case c32 => k_is)
    (case k32 => k_is)
    (case z0 => k_is)
    (case z1 => k_is)
    (case z2 => k_is)
    (case z3 => k_is)
    (case z4 => k_is)
    (case z5 => k_is)
    (case z6 => k_is)
    (case z7 => k_is)
    (case z8 => k_is)
    (case z9 => k_is)
    (case z10 => k_is)
    (case z11 => k_is)
    (case y0 => k_is)
    (case yl0 => k_is)
    (case yv0 => repeat (first | exact Paired.nil | refine Paired.cons ⟨_, rfl⟩ ?_))
    (case y1 => k_is)
    (case yl1 => k_is)
    (case yv1 => repeat (first | exact Paired.nil | refine Paired.cons ⟨_, rfl⟩ ?_))
    (case en0 => k_is)
    (case en1 => k_is)
    (case en2 => k_is)
    (case en3 => k_is)
    (case en4 => k_is)
    (case en5 => k_is)
    (case en6 => k_is)
    (case gaX4 => k_is)
    (case ggX4 => k_is)
    (case sbX4 => k_is)
    (case hxX4 => k_is)
    (case caX4 => k_is)
    (case moX4 => k_is)
    (case cnX4 => k_is)
    (case ctX4 => k_is)
    (case tyX4 => k_is)
    (case kpX4 => k_is)
    (case exX4 => k_exc)
    (case hs0 => k_is)
    (case hd0x => k_is)
    (case ht0 => k_is)
    (case hi0_0 => k_is)
    (case ki0 => first | k_is | kit_is)
    (case ki1 => first | k_is | kit_is)
    (case ki2 => first | k_is | kit_is)
