import PyProof.Rows.All
import HandS.Wide
import Wide.All
import OpenK.AllK
import Wide.FinOn
import HandS.ForMost
import HandS.TupAny
import HandS.TupLe
import HandS.IsInst
import HandS.Zip
import HandS.NoneIn
import HandS.SetFor
import HandS.SetTxt0
import HandS.Strs
import PyProof.Rows.SortShellAny
import KE.GoesMore
import KE.GoesEnum
import KE.GoesZip
import PyProof.EnumMake
import KE.SortData
import HandS.Conv
import HandS.More
import KE.KDictDisplayH
import HandS.Style
import HandS.TupMul
import HandS.RaiseMore
import HandS.Text
import KE.KIntText
import PySem.Challenge.RW_wipeways_k06_programs_written
set_option Elab.async false
set_option linter.all false
set_option maxRecDepth 100000
set_option maxHeartbeats 4000000
namespace Dn
open PySem PySem.Spec PyProof.Rows L2
abbrev D := PyData
abbrev Frag := PySem.W.Frag
def Ex (H H' : Hp) : Prop := ∀ a o, H a = some o → H' a = some o
theorem Ex.refl (H : Hp) : Ex H H := fun _ _ h => h
theorem Ex.trans {H H1 H2 : Hp} (a : Ex H H1) (b : Ex H1 H2) : Ex H H2 := fun x o h => b x o (a x o h)
theorem ex_new {H : Hp} {p : Addr} {o : HO} (h : H p = none) : Ex H (upd H p o) := fun a u e => by
  by_cases hap : a = p
  · subst hap; rw [h] at e; cases e
  · rw [upd_ne hap]; exact e
theorem rd_ex {H H' : Hp} {a : Addr} {u : HO} (e : Ex H H') (h : Rd H a u) : Rd H' a u := by
  rcases h with h | ⟨o, h⟩
  · exact .inl (e a _ h)
  · exact .inr ⟨o, e a _ h⟩
/-- a tuple that is read: tracked as it is, or one of the module -/
def StT (K : Frag) (H : Hp) (a : Addr) (xs : List V) : Prop :=
  H a = some (.tup xs) ∨ ∃ (o : Obj) (its : Array Value) (n : Nat), K.lookup a = some o ∧ o.cls = .type "tuple" ∧ o.data = .seq its n ∧ its.size ≤ sizeLine ∧ Vals xs its.toList
theorem StT.sq {K : Frag} {H : Hp} {a : Addr} {xs : List V} (h : StT K H a xs) : SqT K H a xs := by
  rcases h with h | h
  · exact .inl (.inl h)
  · exact .inr h
theorem StT.of {K : Frag} {H : Hp} {a : Addr} {xs : List V} (h : H a = some (.tup xs)) : StT K H a xs := .inl h
theorem StT.ex {K : Frag} {H H' : Hp} {a : Addr} {xs : List V} (e : Ex H H') (h : StT K H a xs) : StT K H' a xs := by
  rcases h with h | h
  · exact .inl (e _ _ h)
  · exact .inr h
theorem sqT_ex {K : Frag} {H H' : Hp} {a : Addr} {xs : List V} (e : Ex H H') (h : StT K H a xs) : SqT K H' a xs := (h.ex e).sq
theorem sqL_ex {K : Frag} {H H' : Hp} {a : Addr} {xs : List V} (e : Ex H H') (h : SqL K H a xs) : SqL K H' a xs := by
  rcases h with h | h
  · exact .inl (rd_ex e h)
  · exact .inr h
mutual
inductive Rp (K : Frag) (H : Hp) : V → D → Prop where
  | non : Rp K H .non .none
  | bl (b : Bool) : Rp K H (.bl b) (.bool b)
  | int (i : Int) : Rp K H (.int i) (.int i)
  | str (x : Str) : Rp K H (.str x) (.str x)
  | lst {a : Addr} {xs : List V} {ds : List D} : SqL K H a xs → Rps K H xs ds → Rp K H (.ref a) (.list ds)
  | tup {a : Addr} {xs : List V} {ds : List D} : StT K H a xs → Rps K H xs ds → Rp K H (.ref a) (.tuple ds)
inductive Rps (K : Frag) (H : Hp) : List V → List D → Prop where
  | nil : Rps K H [] []
  | cons {v : V} {vs : List V} {d : D} {ds : List D} : Rp K H v d → Rps K H vs ds → Rps K H (v :: vs) (d :: ds)
end
section
variable {K : Frag} {H H' : Hp}
mutual
theorem Rp.ex (e : Ex H H') : ∀ {v : V} {d : D}, Rp K H v d → Rp K H' v d
  | _, _, .non => .non
  | _, _, .bl b => .bl b
  | _, _, .int i => .int i
  | _, _, .str x => .str x
  | _, _, .lst h t => .lst (sqL_ex e h) (Rps.ex e t)
  | _, _, .tup h t => .tup (h.ex e) (Rps.ex e t)
theorem Rps.ex (e : Ex H H') : ∀ {vs : List V} {ds : List D}, Rps K H vs ds → Rps K H' vs ds
  | _, _, .nil => .nil
  | _, _, .cons h t => .cons (Rp.ex e h) (Rps.ex e t)
end
mutual
theorem Rp.dp : ∀ {v : V} {d : D}, Rp K H v d → Dp K H v d
  | _, _, .non => .non
  | _, _, .bl b => .bl b
  | _, _, .int i => .int i
  | _, _, .str x => .str x
  | _, _, .lst h t => .lst h (Rps.dp t)
  | _, _, .tup h t => .tup h.sq (Rps.dp t)
theorem Rps.dp : ∀ {vs : List V} {ds : List D}, Rps K H vs ds → DpAll K H vs ds
  | _, _, .nil => .nil
  | _, _, .cons h t => .cons (Rp.dp h) (Rps.dp t)
end
theorem Rps.length : ∀ {vs : List V} {ds : List D}, Rps K H vs ds → vs.length = ds.length
  | _, _, .nil => rfl
  | _, _, .cons _ t => by rw [List.length_cons, List.length_cons, Rps.length t]
theorem Rps.get : ∀ {vs : List V} {ds : List D} {i : Nat} {d : D}, Rps K H vs ds → ds[i]? = some d → ∃ v, vs[i]? = some v ∧ Rp K H v d
  | _, _, i, d, .nil, e => by simp at e
  | _, _, 0, d, .cons h _, e => by simp at e; subst e; exact ⟨_, rfl, h⟩
  | _, _, i + 1, d, .cons _ t, e => by
    obtain ⟨v, h1, h2⟩ := Rps.get (i := i) t (by simpa using e)
    exact ⟨v, by simpa using h1, h2⟩
theorem Rps.append : ∀ {vs ws : List V} {ds es : List D}, Rps K H vs ds → Rps K H ws es → Rps K H (vs ++ ws) (ds ++ es)
  | _, _, _, _, .nil, s => s
  | _, _, _, _, .cons h t, s => .cons h (Rps.append t s)
theorem Rps.snoc {vs : List V} {ds : List D} {v : V} {d : D} (h : Rps K H vs ds) (r : Rp K H v d) : Rps K H (vs ++ [v]) (ds ++ [d]) := h.append (.cons r .nil)
theorem Rps.take : ∀ {vs : List V} {ds : List D} (n : Nat), Rps K H vs ds → Rps K H (vs.take n) (ds.take n)
  | _, _, 0, _ => .nil
  | _, _, _ + 1, .nil => .nil
  | _, _, n + 1, .cons h t => .cons h (Rps.take n t)
theorem Rps.drop : ∀ {vs : List V} {ds : List D} (n : Nat), Rps K H vs ds → Rps K H (vs.drop n) (ds.drop n)
  | _, _, 0, h => h
  | _, _, _ + 1, .nil => .nil
  | _, _, n + 1, .cons _ t => Rps.drop n t
theorem Rps.set {v : V} {d : D} (r : Rp K H v d) : ∀ {vs : List V} {ds : List D} (i : Nat), Rps K H vs ds → Rps K H (vs.set i v) (ds.set i d)
  | _, _, _, .nil => .nil
  | _, _, 0, .cons _ t => .cons r t
  | _, _, i + 1, .cons h t => .cons h (Rps.set r i t)
theorem Rps.erase : ∀ {vs : List V} {ds : List D} (i : Nat), Rps K H vs ds → Rps K H (vs.eraseIdx i) (ds.eraseIdx i)
  | _, _, _, .nil => .nil
  | _, _, 0, .cons _ t => t
  | _, _, i + 1, .cons h t => .cons h (Rps.erase i t)
theorem Rps.of_ints : ∀ (ns : List Int), Rps K H (ns.map V.int) (ns.map PyData.int)
  | [] => .nil
  | n :: ns => .cons (.int n) (Rps.of_ints ns)
theorem Rps.strs : ∀ {vs : List V} {ns : List Str}, Rps K H vs (ns.map PyData.str) → vs = ns.map V.str
  | _, [], .nil => rfl
  | _, n :: ns, .cons h t => by
    cases h
    rw [List.map_cons, Rps.strs t]
theorem Rps.of_strs : ∀ (ns : List Str), Rps K H (ns.map V.str) (ns.map PyData.str)
  | [] => .nil
  | n :: ns => .cons (.str n) (Rps.of_strs ns)
theorem Rps.bls : ∀ {vs : List V} {ns : List Bool}, Rps K H vs (ns.map PyData.bool) → vs = ns.map V.bl
  | _, [], .nil => rfl
  | _, n :: ns, .cons h t => by
    cases h
    rw [List.map_cons, Rps.bls t]
end
inductive Sl where
  | no
  | sh (d : D)
  | ow (xs : List D)
abbrev Env := List Sl
def Sl.own : Sl → Bool
  | .ow _ => true
  | _ => false
structure Exn where
  cls : Str
  num : Option Int
inductive Res (α : Type) where
  | ok (a : α) (e : Env)
  | exc (x : Exn) (e : Env)
  | bad
abbrev M (α : Type) := Env → Res α
def mPure {α : Type} (a : α) : M α := fun e => .ok a e
def mBind {α β : Type} (m : M α) (f : α → M β) : M β := fun e => match m e with
  | .ok a e' => f a e'
  | .exc x e' => .exc x e'
  | .bad => .bad
def mOpt {α : Type} (o : Option α) : M α := fun e => match o with
  | some a => .ok a e
  | none => .bad
def OwR (K : Frag) (Hs : Hp) : Sl → HO → Prop
  | .ow xs, .lst vs => Rps K Hs vs xs
  | _, _ => False
theorem OwR.ex {K : Frag} {H H' : Hp} (e : Ex H H') : ∀ {s : Sl} {o : HO}, OwR K H s o → OwR K H' s o := fun {s o} h => by
  cases s with
  | ow xs =>
    cases o with
    | lst vs => exact Rps.ex e h
    | _ => exact h
  | _ => exact h
/-- pn: the slots that hold a caller's own lists (they stay); G: what others hold -/
structure Wd where
  pn : List (Nat × V)
  G : Hp
structure RE (K : Frag) (W : Wd) (Hs H : Hp) (σ : L2.St) (δ : Env) : Prop where
  ex : Ex Hs H
  fg : ∀ a o, W.G a = some o → H a = some o ∧ Hs a = none
  len : σ.length = δ.length
  sh : ∀ (i : Nat) (d : D), δ[i]? = some (Sl.sh d) → ∃ v : V, σ[i]? = some (some v) ∧ Rp K Hs v d
  ow : ∀ (i : Nat) (s : Sl), δ[i]? = some s → s.own = true → ∃ (a : Addr) (o : HO), σ[i]? = some (some (V.ref a)) ∧ H a = some o ∧ OwR K Hs s o ∧ Hs a = none ∧ W.G a = none
  ap : ∀ (i j : Nat) (s t : Sl) (a : Addr), δ[i]? = some s → s.own = true → δ[j]? = some t → t.own = true → σ[i]? = some (some (V.ref a)) → σ[j]? = some (some (V.ref a)) → i = j
  pin : ∀ p ∈ W.pn, σ[p.1]? = some (some p.2) ∧ ∃ s : Sl, δ[p.1]? = some s ∧ s.own = true
/-- new stable things, all of them fresh -/
structure Gr (Hs H Hs' H' : Hp) : Prop where
  s : Ex Hs Hs'
  h : Ex H H'
  i : Ex Hs' H'
  f : ∀ a, H a ≠ none → Hs' a = Hs a
theorem Gr.refl {Hs H : Hp} (e : Ex Hs H) : Gr Hs H Hs H := ⟨Ex.refl _, Ex.refl _, e, fun _ _ => rfl⟩
theorem ex_none {Hs H : Hp} {p : Addr} (e : Ex Hs H) (h : H p = none) : Hs p = none := by
  cases q : Hs p with
  | none => rfl
  | some o => rw [e p o q] at h; cases h
theorem Gr.new {Hs H : Hp} {p : Addr} {o : HO} (e : Ex Hs H) (h : H p = none) : Gr Hs H (upd Hs p o) (upd H p o) where
  s := ex_new (ex_none e h)
  h := ex_new h
  i := fun a u q => by
    by_cases hap : a = p
    · subst hap; rw [upd_same] at q ⊢; exact q
    · rw [upd_ne hap] at q ⊢; exact e a u q
  f := fun a ha => by
    have hap : a ≠ p := fun z => ha (z ▸ h)
    rw [upd_ne hap]
theorem Gr.trans {Hs H Hs1 H1 Hs2 H2 : Hp} (a : Gr Hs H Hs1 H1) (b : Gr Hs1 H1 Hs2 H2) : Gr Hs H Hs2 H2 where
  s := a.s.trans b.s
  h := a.h.trans b.h
  i := b.i
  f := fun x hx => by
    have h1 : H1 x ≠ none := by
      cases q : H x with
      | none => exact absurd q hx
      | some o => rw [a.h x o q]; simp
    rw [b.f x h1, a.f x hx]
section
variable {K : Frag} {W : Wd} {Hs H Hs' H' : Hp} {σ σ' : L2.St} {δ δ' : Env}
theorem RE.grow (r : RE K W Hs H σ δ) (g : Gr Hs H Hs' H') : RE K W Hs' H' σ δ where
  ex := g.i
  fg := fun a o q => by
    obtain ⟨h1, h2⟩ := r.fg a o q
    refine ⟨g.h a o h1, ?_⟩
    rw [g.f a (by rw [h1]; simp), h2]
  len := r.len
  sh := fun i d q => by
    obtain ⟨v, h1, h2⟩ := r.sh i d q
    exact ⟨v, h1, h2.ex g.s⟩
  ow := fun i s q w => by
    obtain ⟨a, o, h1, h2, h3, h4, h5⟩ := r.ow i s q w
    refine ⟨a, o, h1, g.h a o h2, h3.ex g.s, ?_, h5⟩
    rw [g.f a (by rw [h2]; simp), h4]
  ap := r.ap
  pin := r.pin
/-- a slot that says nothing may hold anything -/
theorem RE.sig (r : RE K W Hs H σ δ) (hl : σ'.length = σ.length) (h : ∀ (i : Nat) (s : Sl), δ[i]? = some s → s ≠ Sl.no → σ'[i]? = σ[i]?) : RE K W Hs H σ' δ where
  ex := r.ex
  fg := r.fg
  len := hl.trans r.len
  sh := fun i d q => by rw [h i _ q (by simp)]; exact r.sh i d q
  ow := fun i s q w => by rw [h i s q (by rintro rfl; cases w)]; exact r.ow i s q w
  ap := fun i j s t a h1 h2 h3 h4 h5 h6 => by
    rw [h i s h1 (by rintro rfl; cases h2)] at h5
    rw [h j t h3 (by rintro rfl; cases h4)] at h6
    exact r.ap i j s t a h1 h2 h3 h4 h5 h6
  pin := fun p hp => by
    obtain ⟨h1, s, h2, h3⟩ := r.pin p hp
    refine ⟨?_, s, h2, h3⟩
    rw [h p.1 s h2 (by rintro rfl; cases h3)]
    exact h1
/-- less is said -/
theorem RE.less (r : RE K W Hs H σ δ) (hl : δ'.length = δ.length) (h : ∀ (i : Nat) (s : Sl), δ'[i]? = some s → s = Sl.no ∨ δ[i]? = some s) (hp : ∀ p ∈ W.pn, δ'[p.1]? = δ[p.1]?) : RE K W Hs H σ δ' where
  ex := r.ex
  fg := r.fg
  len := r.len.trans hl.symm
  sh := fun i d q => by
    rcases h i _ q with z | z
    · cases z
    · exact r.sh i d z
  ow := fun i s q w => by
    rcases h i _ q with z | z
    · subst z; cases w
    · exact r.ow i s z w
  ap := fun i j s t a h1 h2 h3 h4 h5 h6 => by
    rcases h i _ h1 with z | z
    · subst z; cases h2
    · rcases h j _ h3 with z' | z'
      · subst z'; cases h4
      · exact r.ap i j s t a z h2 z' h4 h5 h6
  pin := fun p hpn => by
    obtain ⟨h1, s, h2, h3⟩ := r.pin p hpn
    exact ⟨h1, s, (hp p hpn).trans h2, h3⟩
end
theorem setGet {α : Type} {l : List α} {i j : Nat} {x s : α} (h : (l.set i x)[j]? = some s) : (j = i ∧ s = x) ∨ (j ≠ i ∧ l[j]? = some s) := by
  by_cases e : j = i
  · subst e
    by_cases hl : j < l.length
    · rw [List.getElem?_set_self hl] at h
      exact .inl ⟨rfl, (Option.some.inj h).symm⟩
    · rw [List.getElem?_eq_none (by simpa using hl)] at h; cases h
  · rw [List.getElem?_set_ne (Ne.symm e)] at h
    exact .inr ⟨e, h⟩
theorem set_lt {α : Type} {l : List α} {i : Nat} {x s : α} (h : (l.set i x)[i]? = some s) : i < l.length := by
  by_cases hl : i < l.length
  · exact hl
  · rw [List.getElem?_eq_none (by simpa using hl)] at h; cases h
/-- a fresh list that no name holds yet -/
structure FrO (K : Frag) (W : Wd) (Hs H : Hp) (σ : L2.St) (δ : Env) (a : Addr) (xs : List D) : Prop where
  at_ : ∃ vs, H a = some (.lst vs) ∧ Rps K Hs vs xs
  hs : Hs a = none
  g : W.G a = none
  ne : ∀ (i : Nat) (s : Sl), δ[i]? = some s → s.own = true → σ[i]? ≠ some (some (V.ref a))
section
variable {K : Frag} {W : Wd} {Hs H Hs' H' : Hp} {σ : L2.St} {δ : Env} {v : V} {d : D} {i : Nat} {a : Addr} {xs : List D}
theorem RE.setSh (r : RE K W Hs H σ δ) (h : Rp K Hs v d) (hi : i ∉ W.pn.map (·.1)) : RE K W Hs H (σ.set i (some v)) (δ.set i (.sh d)) where
  ex := r.ex
  fg := r.fg
  len := by rw [List.length_set, List.length_set]; exact r.len
  sh := fun j e q => by
    rcases setGet q with ⟨rfl, z⟩ | ⟨hj, z⟩
    · cases z
      have hl := set_lt q
      exact ⟨v, by rw [List.getElem?_set_self (by rw [r.len]; exact hl)], h⟩
    · rw [List.getElem?_set_ne (Ne.symm hj)]
      exact r.sh j e z
  ow := fun j s q w => by
    rcases setGet q with ⟨rfl, z⟩ | ⟨hj, z⟩
    · subst z; cases w
    · rw [List.getElem?_set_ne (Ne.symm hj)]
      exact r.ow j s z w
  ap := fun j k s t b h1 h2 h3 h4 h5 h6 => by
    rcases setGet h1 with ⟨rfl, z⟩ | ⟨hj, z⟩
    · subst z; cases h2
    · rcases setGet h3 with ⟨rfl, z'⟩ | ⟨hk, z'⟩
      · subst z'; cases h4
      · rw [List.getElem?_set_ne (Ne.symm hj)] at h5
        rw [List.getElem?_set_ne (Ne.symm hk)] at h6
        exact r.ap j k s t b z h2 z' h4 h5 h6
  pin := fun p hp => by
    have hne : i ≠ p.1 := fun z => hi (z ▸ List.mem_map_of_mem hp)
    rw [List.getElem?_set_ne hne, List.getElem?_set_ne hne]
    exact r.pin p hp
/-- the list of a slot is changed in place -/
theorem RE.write {s : Sl} {o : HO} (r : RE K W Hs H σ δ) {t : Sl} (ht : δ[i]? = some t) (hto : t.own = true) (ha : σ[i]? = some (some (V.ref a))) (hs : s.own = true) (ho : OwR K Hs s o) : RE K W Hs (upd H a o) σ (δ.set i s) := by
  obtain ⟨a', o', e1, e2, e3, e4, e5⟩ := r.ow i t ht hto
  have haa : a' = a := by rw [ha] at e1; cases e1; rfl
  subst haa
  have hil : i < δ.length := (List.getElem?_eq_some_iff.mp ht).1
  exact {
    ex := fun b u q => by
      have hb : b ≠ a' := fun z => by rw [z, e4] at q; cases q
      rw [upd_ne hb]; exact r.ex b u q
    fg := fun b u q => by
      have hb : b ≠ a' := fun z => by rw [z, e5] at q; cases q
      rw [upd_ne hb]; exact r.fg b u q
    len := by rw [List.length_set]; exact r.len
    sh := fun j e q => by
      rcases setGet q with ⟨rfl, z⟩ | ⟨hj, z⟩
      · subst z; cases hs
      · exact r.sh j e z
    ow := fun j u q w => by
      rcases setGet q with ⟨rfl, z⟩ | ⟨hj, z⟩
      · subst z; exact ⟨a', o, ha, upd_same, ho, e4, e5⟩
      · obtain ⟨b, p, f1, f2, f3, f4, f5⟩ := r.ow j u z w
        have hb : b ≠ a' := fun zz => by
          subst zz
          exact hj (r.ap j i u t b z w ht hto f1 ha)
        exact ⟨b, p, f1, by rw [upd_ne hb]; exact f2, f3, f4, f5⟩
    ap := fun j k u w b h1 h2 h3 h4 h5 h6 => by
      have f : ∀ {j : Nat} {u : Sl}, (δ.set i s)[j]? = some u → u.own = true → ∃ u', δ[j]? = some u' ∧ u'.own = true := fun {j u} q w => by
        rcases setGet q with ⟨rfl, z⟩ | ⟨hj, z⟩
        · exact ⟨t, ht, hto⟩
        · exact ⟨u, z, w⟩
      obtain ⟨u1, q1, w1⟩ := f h1 h2
      obtain ⟨u2, q2, w2⟩ := f h3 h4
      exact r.ap j k u1 u2 b q1 w1 q2 w2 h5 h6
    pin := fun p hp => by
      obtain ⟨h1, u, h2, h3⟩ := r.pin p hp
      refine ⟨h1, ?_⟩
      by_cases hpi : i = p.1
      · exact ⟨s, by rw [← hpi, List.getElem?_set_self hil], hs⟩
      · exact ⟨u, by rw [List.getElem?_set_ne hpi]; exact h2, h3⟩ }
end
end Dn
namespace Dn
open PySem PySem.Spec PyProof.Rows L2
/-- what is wanted of an exception -/
abbrev XQ := Exn → L2.St → Hp → Prop
abbrev noX : XQ := fun _ _ _ => False
def Post {α : Type} (K : Frag) (E : XQ) (W : Wd) (Hs : Hp) (σ : L2.St) (r : Res α) (Q : α → Hp → Hp → Env → Prop) : Prop :=
  match r with
  | .ok a δ' => ∀ Hs' H', Ex Hs Hs' → RE K W Hs' H' σ δ' → Q a Hs' H' δ'
  | .exc x δ' => ∀ Hs' H', Ex Hs Hs' → RE K W Hs' H' σ δ' → E x σ H'
  | .bad => False
theorem Post.ex {α : Type} {K : Frag} {E : XQ} {W : Wd} {Hs Hs1 : Hp} {σ : L2.St} {r : Res α} {Q : α → Hp → Hp → Env → Prop} (h : Post K E W Hs σ r Q) (e : Ex Hs Hs1) : Post K E W Hs1 σ r Q := by
  cases r with
  | ok a δ' => exact fun Hs' H' e' r => h Hs' H' (e.trans e') r
  | exc x δ' => exact fun Hs' H' e' r => h Hs' H' (e.trans e') r
  | bad => exact h
theorem Post.of {α : Type} {K : Frag} {E : XQ} {W : Wd} {Hs H : Hp} {σ : L2.St} {a : α} {δ : Env} {Q : α → Hp → Hp → Env → Prop} (h : Post K E W Hs σ (.ok a δ) Q) (r : RE K W Hs H σ δ) : Q a Hs H δ := h Hs H (Ex.refl _) r
theorem Post.grow {α : Type} {K : Frag} {E : XQ} {W : Wd} {Hs H Hs' H' : Hp} {σ : L2.St} {a : α} {δ : Env} {Q : α → Hp → Hp → Env → Prop} (h : Post K E W Hs σ (.ok a δ) Q) (r : RE K W Hs H σ δ) (g : Gr Hs H Hs' H') : Q a Hs' H' δ :=
  h Hs' H' g.s (r.grow g)
/-- a run from some world that the slots and the heap bear -/
def Cf {α : Type} (K : Frag) (E : XQ) (ps : List Nat) (m : M α) (σ : L2.St) (H : Hp) (Q : Wd → α → Hp → Hp → Env → Prop) : Prop :=
  ∃ (W : Wd) (Hs : Hp) (δ : Env), W.pn.map (·.1) = ps ∧ RE K W Hs H σ δ ∧ Post K E W Hs σ (m δ) (Q W)
def tOf (K : Frag) (E : XQ) (ps : List Nat) (m : M D) : TE := fun σ H Q => Cf K E ps m σ H fun _ d Hs' H' _ => ∀ v, Rp K Hs' v d → Q v H'
def tOfT (K : Frag) (E : XQ) (ps : List Nat) (m : M Bool) : TT := fun σ H Q => Cf K E ps m σ H fun _ b _ H' _ => Q b H'
def tOfO (K : Frag) (E : XQ) (ps : List Nat) (m : M (List D)) : TE := fun σ H Q => Cf K E ps m σ H fun W xs Hs' H' δ' => ∀ a, FrO K W Hs' H' σ δ' a xs → Q (.ref a) H'
/-- an argument: shared data, or a list of one's own -/
inductive Ag where
  | sh (d : D)
  | ow (i : Nat)
def AgR (K : Frag) (Hs : Hp) (σ : L2.St) : List V → List Ag → Prop
  | [], [] => True
  | v :: vs, .sh d :: gs => Rp K Hs v d ∧ AgR K Hs σ vs gs
  | v :: vs, .ow i :: gs => σ[i]? = some (some v) ∧ AgR K Hs σ vs gs
  | _, _ => False
def tOfA (K : Frag) (E : XQ) (ps : List Nat) (m : M (List Ag)) : TA := fun σ H Q => Cf K E ps m σ H fun _ gs Hs' H' _ => ∀ vs, AgR K Hs' σ vs gs → Q vs H'
theorem AgR.ex {K : Frag} {Hs Hs' : Hp} {σ : L2.St} (e : Ex Hs Hs') : ∀ {vs : List V} {gs : List Ag}, AgR K Hs σ vs gs → AgR K Hs' σ vs gs
  | [], [], _ => trivial
  | [], _ :: _, h => h.elim
  | _ :: _, [], h => h.elim
  | _ :: _, .sh _ :: _, h => ⟨h.1.ex e, AgR.ex e h.2⟩
  | _ :: _, .ow _ :: _, h => ⟨h.1, AgR.ex e h.2⟩
section
variable {K : Frag} {E : XQ} {ps : List Nat} {W : Wd} {Hs H : Hp} {σ : L2.St} {δ : Env}
/-- one step of a run: a part is run, the rest goes on -/
theorem Cf.step {α β : Type} {ma : M α} {f : α → M β} {QQ : β → Hp → Hp → Env → Prop} {R : Wd → α → Hp → Hp → Env → Prop} (hp : W.pn.map (·.1) = ps) (re : RE K W Hs H σ δ) (po : Post K E W Hs σ (mBind ma f δ) QQ)
    (k : ∀ a Hs1 H1 δ1, Ex Hs Hs1 → RE K W Hs1 H1 σ δ1 → Post K E W Hs1 σ (f a δ1) QQ → R W a Hs1 H1 δ1) : Cf K E ps ma σ H R := by
  refine ⟨W, Hs, δ, hp, re, ?_⟩
  unfold mBind at po
  cases h : ma δ with
  | ok a δ1 =>
    rw [h] at po
    exact fun Hs' H' e r => k a Hs' H' δ1 e r (Post.ex po e)
  | exc x δ1 =>
    rw [h] at po
    exact po
  | bad =>
    rw [h] at po
    exact po
theorem tOf.step {β : Type} {ma : M D} {f : D → M β} {QQ : β → Hp → Hp → Env → Prop} {R : V → Hp → Prop} (hp : W.pn.map (·.1) = ps) (re : RE K W Hs H σ δ) (po : Post K E W Hs σ (mBind ma f δ) QQ)
    (k : ∀ v d Hs1 H1 δ1, Ex Hs Hs1 → RE K W Hs1 H1 σ δ1 → Rp K Hs1 v d → Post K E W Hs1 σ (f d δ1) QQ → R v H1) : tOf K E ps ma σ H R :=
  Cf.step hp re po fun d Hs1 H1 δ1 e r p v rv => k v d Hs1 H1 δ1 e r rv p
theorem tOfT.step {β : Type} {ma : M Bool} {f : Bool → M β} {QQ : β → Hp → Hp → Env → Prop} {R : Bool → Hp → Prop} (hp : W.pn.map (·.1) = ps) (re : RE K W Hs H σ δ) (po : Post K E W Hs σ (mBind ma f δ) QQ)
    (k : ∀ b Hs1 H1 δ1, Ex Hs Hs1 → RE K W Hs1 H1 σ δ1 → Post K E W Hs1 σ (f b δ1) QQ → R b H1) : tOfT K E ps ma σ H R :=
  Cf.step hp re po k
theorem tOfA.step {β : Type} {ma : M (List Ag)} {f : List Ag → M β} {QQ : β → Hp → Hp → Env → Prop} {R : List V → Hp → Prop} (hp : W.pn.map (·.1) = ps) (re : RE K W Hs H σ δ) (po : Post K E W Hs σ (mBind ma f δ) QQ)
    (k : ∀ vs gs Hs1 H1 δ1, Ex Hs Hs1 → RE K W Hs1 H1 σ δ1 → AgR K Hs1 σ vs gs → Post K E W Hs1 σ (f gs δ1) QQ → R vs H1) : tOfA K E ps ma σ H R :=
  Cf.step hp re po fun gs Hs1 H1 δ1 e r p vs rv => k vs gs Hs1 H1 δ1 e r rv p
theorem tOfO.step {β : Type} {ma : M (List D)} {f : List D → M β} {QQ : β → Hp → Hp → Env → Prop} {R : V → Hp → Prop} (hp : W.pn.map (·.1) = ps) (re : RE K W Hs H σ δ) (po : Post K E W Hs σ (mBind ma f δ) QQ)
    (k : ∀ a xs Hs1 H1 δ1, Ex Hs Hs1 → RE K W Hs1 H1 σ δ1 → FrO K W Hs1 H1 σ δ1 a xs → Post K E W Hs1 σ (f xs δ1) QQ → R (.ref a) H1) : tOfO K E ps ma σ H R :=
  Cf.step hp re po fun xs Hs1 H1 δ1 e r p a fa => k a xs Hs1 H1 δ1 e r fa p
/-- the last part of a run -/
theorem Cf.last {α : Type} {ma : M α} {R : Wd → α → Hp → Hp → Env → Prop} (hp : W.pn.map (·.1) = ps) (re : RE K W Hs H σ δ) (po : Post K E W Hs σ (ma δ) (R W)) : Cf K E ps ma σ H R := ⟨W, Hs, δ, hp, re, po⟩
theorem Post.opt {α : Type} {o : Option α} {QQ : α → Hp → Hp → Env → Prop} (po : Post K E W Hs σ (mOpt o δ) QQ) : ∃ a, o = some a ∧ Post K E W Hs σ (.ok a δ) QQ := by
  unfold mOpt at po
  cases o with
  | none => exact po.elim
  | some a => exact ⟨a, rfl, po⟩
end
theorem pe_imp {X : Cx} {e : Expr} {t t' : TE} (h : PE X e t) (k : ∀ σ H Q, t' σ H Q → t σ H Q) : PE X e t' := ⟨fun pins s σ H Q I q => h.run pins s σ H Q I (k σ H Q q)⟩
theorem pt_imp {X : Cx} {e : Expr} {t t' : TT} (h : PT X e t) (k : ∀ σ H Q, t' σ H Q → t σ H Q) : PT X e t' := ⟨fun pins s σ H Q I q => h.run pins s σ H Q I (k σ H Q q)⟩
theorem pw_imp {X : Cx} {e : Expr} {t t' : TT} (h : PW X e t) (k : ∀ σ H Q, t' σ H Q → t σ H Q) : PW X e t' := ⟨fun wh pins s σ H Q I q => h.run wh pins s σ H Q I (k σ H Q q)⟩
theorem pa_imp {X : Cx} {e : List Expr} {t t' : TA} (h : PA X e t) (k : ∀ σ H Q, t' σ H Q → t σ H Q) : PA X e t' := ⟨fun p pins s σ H Q I q => h.run p pins s σ H Q I (k σ H Q q)⟩
theorem pst_imp {X : Cx} {e : Stmt} {t t' : TS} (h : PS X e t) (k : ∀ D σ H, t' D σ H → t D σ H) : PS X e t' := ⟨fun pins s σ H D I q => h.run pins s σ H D I (k D σ H q)⟩
theorem pss_imp {X : Cx} {e : List Stmt} {t t' : TS} (h : PSs X e t) (k : ∀ D σ H, t' D σ H → t D σ H) : PSs X e t' := ⟨fun pins s σ H D I q => h.run pins s σ H D I (k D σ H q)⟩
section
variable {X : Cx} {E : XQ} {ps : List Nat} {a b e : Expr} {pos : Pos} {ma mb : M D}
def mVar (i : Nat) : M D := fun δ => match δ[i]? with
  | some (.sh d) => .ok d δ
  | _ => .bad
theorem je_var {i : Nat} {x : Str} (hN : X.N[i]? = some x) (hv : Vis X.env.scope x) (hd : (x == ("__debug__" : Str)) = false := by decide) (hcd : (x == ("__classdict__" : Str)) = false := by decide) : PE X (.Name x pos) (tOf X.K E ps (mVar i)) :=
  pe_imp (pe_var hN hv hd hcd) fun σ H Q ⟨W, Hs, δ, hp, re, po⟩ => by
    unfold mVar at po
    split at po
    · rename_i d hd
      obtain ⟨v, h1, h2⟩ := re.sh i d hd
      exact ⟨v, h1, po Hs H (Ex.refl _) re v h2⟩
    · exact po.elim
/-- a constant -/
def mC (d : D) : M D := mPure d
theorem je_c {t : TE} {d : D} {v : V} (h : PE X e (tC v)) (hv : ∀ H, Rp X.K H v d) : PE X e (tOf X.K E ps (mC d)) :=
  pe_imp h fun σ H Q ⟨W, Hs, δ, hp, re, po⟩ => Post.of po re v (hv Hs)
theorem je_int {i : Int} {j pos} : PE X (.Constant (.int i) j pos) (tOf X.K E ps (mC (.int i))) := je_c (t := tC (.int i)) pe_int fun _ => .int i
theorem je_bl {i : Bool} {j pos} : PE X (.Constant (.bool i) j pos) (tOf X.K E ps (mC (.bool i))) := je_c (t := tC (.bl i)) pe_bl fun _ => .bl i
theorem je_str {x : Str} {j pos} : PE X (.Constant (.str x) j pos) (tOf X.K E ps (mC (.str x))) := je_c (t := tC (.str x)) pe_str fun _ => .str x
theorem je_glob {x : Str} {v : V} {u : Value} {d : D} (hg : Gl X x) (hm : X.mg x = some u) (r : RelV v u) (hv : ∀ H, Rp X.K H v d) (hd : (x == ("__debug__" : Str)) = false := by decide) : PE X (.Name x pos) (tOf X.K E ps (mC d)) := je_c (t := tC v) (pe_glob hg hm r hd) hv
/-- a reading by values gives what a function upon data tells -/
def OpS (K : Frag) (r : R2) (g : D → D → Option D) : Prop := ∀ Hs H x y d e c (Q : VK), Ex Hs H → Rp K Hs x d → Rp K Hs y e → g d e = some c → (∀ v Hs' H', Gr Hs H Hs' H' → Rp K Hs' v c → Q v H') → r x y H Q
theorem OpS.or {K : Frag} {r r' : R2} {g g' : D → D → Option D} (h : OpS K r g) (h' : OpS K r' g') : OpS K (fun x y H Q => r x y H Q ∨ r' x y H Q) (fun d e => (g d e).or (g' d e)) := fun Hs H x y d e c Q ex rx ry hg k => by
  have hg : (g d e).or (g' d e) = some c := hg
  cases q : g d e with
  | some c' =>
    rw [q] at hg
    have hc : c' = c := by simpa using hg
    subst hc
    exact .inl (h Hs H x y d e c' Q ex rx ry q k)
  | none =>
    rw [q] at hg
    exact .inr (h' Hs H x y d e c Q ex rx ry (by simpa using hg) k)
def mBin (g : D → D → Option D) (ma mb : M D) : M D := mBind ma fun d => mBind mb fun e => mOpt (g d e)
theorem binS {r : R2} {g : D → D → Option D} (hr : OpS X.K r g) {σ : L2.St} {H : Hp} {Q : VK} (h : tOf X.K E ps (mBin g ma mb) σ H Q) : tOp r (tOf X.K E ps ma) (tOf X.K E ps mb) σ H Q := by
  obtain ⟨W, Hs, δ, hp, re, po⟩ := h
  refine tOf.step hp re po fun x d Hs1 H1 δ1 e1 re1 r1 po1 => ?_
  refine tOf.step hp re1 po1 fun y e Hs2 H2 δ2 e2 re2 r2 po2 => ?_
  obtain ⟨c, hc, po3⟩ := Post.opt po2
  exact hr Hs2 H2 x y d e c Q re2.ex (r1.ex e2) r2 hc fun v Hs' H' g rv => Post.grow po3 re2 g v rv
theorem je_bin {op : Operator} {r : R2} {g : D → D → Option D} (ho : OpR X (binaryOp op) r) (hr : OpS X.K r g) (ha : PE X a (tOf X.K E ps ma)) (hb : PE X b (tOf X.K E ps mb)) : PE X (.BinOp a op b pos) (tOf X.K E ps (mBin g ma mb)) :=
  pe_imp (pe_op ho ha hb) fun _ _ _ h => binS hr h
theorem je_cmp {op : CmpOp} {r : R2} {g : D → D → Option D} (ho : OpR X (compareOp op) r) (hr : OpS X.K r g) (ha : PE X a (tOf X.K E ps ma)) (hb : PE X b (tOf X.K E ps mb)) (hm : behindInMarks op b = false) : PE X (.Compare a [op] [b] pos) (tOf X.K E ps (mBin g ma mb)) :=
  pe_imp (pe_cmpR ho ha hb hm) fun _ _ _ h => binS hr h
def toB : D → Option Bool
  | .bool b => some b
  | _ => none
def mTest (m : M D) : M Bool := mBind m fun d => mOpt (toB d)
theorem testS {t : TE} {m : M D} (h : ∀ σ H Q, tOf X.K E ps m σ H Q → t σ H Q) {σ : L2.St} {H : Hp} {Q : Bool → Hp → Prop} (q : tOfT X.K E ps (mTest m) σ H Q) : tTest t σ H Q := by
  obtain ⟨W, Hs, δ, hp, re, po⟩ := q
  refine h _ _ _ (tOf.step hp re po fun x d Hs1 H1 δ1 e1 re1 r1 po1 => ?_)
  obtain ⟨c, hc, po3⟩ := Post.opt po1
  cases r1 <;> simp [toB] at hc
  subst hc
  exact ⟨_, rfl, Post.of po3 re1⟩
theorem jt_cmp {op : CmpOp} {r : R2} {g : D → D → Option D} (ho : OpR X (compareOp op) r) (hr : OpS X.K r g) (ha : PE X a (tOf X.K E ps ma)) (hb : PE X b (tOf X.K E ps mb)) (hm : behindInMarks op b = false) : PT X (.Compare a [op] [b] pos) (tOfT X.K E ps (mTest (mBin g ma mb))) :=
  pt_imp (pt_cmpR ho ha hb hm) fun _ _ _ h => testS (fun _ _ _ => binS hr) h
/-- an expression that is True or False, as a test -/
theorem jt_val {m : M D} (h : PE X e (tOf X.K E ps m)) (he : ∀ whole, isTrue e X.env whole = (do let v ← whole; standAt e.pos; holding [v] (truthy v)) := by intro _; rfl) : PT X e (tOfT X.K E ps (mTest m)) :=
  pt_imp (pt_val h he) fun _ _ _ q => testS (fun _ _ _ z => z) q
def mChain (g g' : D → D → Option D) (ma mb mc : M D) : M D := mBind ma fun d => mBind mb fun e => mBind (mOpt ((g d e).bind toB)) fun k => if k then mBind mc fun f => mOpt (g' e f) else mPure (.bool false)
variable {c : Expr} {mc : M D}
/-- comparisons that give truths and lay nothing -/
def OpB (K : Frag) (r : R2) (g : D → D → Option D) : Prop := ∀ Hs H x y d e k (Q : VK), Ex Hs H → Rp K Hs x d → Rp K Hs y e → (g d e).bind toB = some k → Q (.bl k) H → r x y H Q
theorem chainS {r r' : R2} {g g' : D → D → Option D} (hr : OpB X.K r g) (hr' : OpS X.K r' g') {σ : L2.St} {H : Hp} {Q : VK} (h : tOf X.K E ps (mChain g g' ma mb mc) σ H Q) : tChain r r' (tOf X.K E ps ma) (tOf X.K E ps mb) (tOf X.K E ps mc) σ H Q := by
  obtain ⟨W, Hs, δ, hp, re, po⟩ := h
  refine tOf.step hp re po fun x d Hs1 H1 δ1 e1 re1 r1 po1 => ?_
  refine tOf.step hp re1 po1 fun y e Hs2 H2 δ2 e2 re2 r2 po2 => ?_
  have q : ∃ k, (g d e).bind toB = some k ∧ Post X.K E W Hs2 σ ((if k then mBind mc fun f => mOpt (g' e f) else mPure (.bool false)) δ2) fun d Hs' H' _ => ∀ v, Rp X.K Hs' v d → Q v H' := by
    unfold mBind at po2
    unfold mOpt at po2
    cases z : (g d e).bind toB with
    | none => rw [z] at po2; exact po2.elim
    | some k => rw [z] at po2; exact ⟨k, rfl, po2⟩
  obtain ⟨k, hk, po3⟩ := q
  refine hr Hs2 H2 x y d e k _ re2.ex (r1.ex e2) r2 hk ⟨k, rfl, ?_⟩
  cases k with
  | true =>
    rw [if_pos rfl] at po3 ⊢
    refine tOf.step hp re2 po3 fun z f Hs3 H3 δ3 e3 re3 r3 po4 => ?_
    obtain ⟨c, hc, po5⟩ := Post.opt po4
    exact hr' Hs3 H3 y z e f c Q re3.ex (r2.ex e3) r3 hc fun v Hs' H' g rv => Post.grow po5 re3 g v rv
  | false =>
    rw [if_neg Bool.false_ne_true] at po3 ⊢
    exact Post.of po3 re2 _ (.bl false)
end
end Dn
namespace Dn
open PySem PySem.Spec PyProof.Rows L2
section
variable {X : Cx} {K : Frag}
/-- two lists that stand in the heap, put together -/
def rCatR (K : Frag) : R2 := fun x y H Q => ∃ (l b : Addr) (xs zs : List V), x = .ref l ∧ y = .ref b ∧ SqL K H l xs ∧ SqL K H b zs ∧ xs.length + zs.length ≤ sizeLine ∧ ∀ p, H p = none → Q (.ref p) (upd H p (.lst (xs ++ zs)))
theorem op_catR : OpR X (binaryOp .Add) (rCatR X.K) := by
  intro pins s σ H x y v u Q I rx ry h
  obtain ⟨l, b, xs, zs, e1, e2, hl, hb, hz, q⟩ := h
  subst e1; subst e2
  obtain rfl : v = Value.ref l := rx
  obtain rfl : u = Value.ref b := ry
  obtain ⟨its, r1, ⟨o1, n1, g1, c1, d1, t1⟩, _⟩ := I.list hl
  obtain ⟨jts, r2, ⟨o2, n2, g2, c2, d2, t2⟩, _⟩ := I.list hb
  cases o1
  cases o2
  simp only at c1 d1 t1 c2 d2 t2
  subst c1 d1 t1 c2 d2 t2
  have m1 := r1.length
  have m2 := r2.length
  have ea : its.toArray ++ jts.toArray = (its ++ jts).toArray := by simp
  refine concat_meets ⟨_, g1, rfl⟩ ⟨_, g2, rfl⟩ noFill_list_add seq_list_add PySem.F.slot_list_add PySem.F.entry_list_add
    (PySem.F.args_list_add_2 _ _) (PyProof.Rows.list_addW l b its.toArray jts.toArray _ _ _ _ _ _ (by simp only [List.size_toArray]; omega)) ⟨g1, g2, ?_⟩
  rw [ea]
  have hlen : (xs ++ zs).length ≤ sizeLine := by simp only [List.length_append]; omega
  exact ⟨.ref _, _, I.lnew (t' := s.toks) (r1.append r2) hlen, rfl, q _ I.fresh⟩
def rAddA (K : Frag) : R2 := fun x y H Q => (rI0 fun i j => .int (i + j)) x y H Q ∨ (∃ i j, x = .str i ∧ y = .str j ∧ i.length + j.length ≤ sizeLine ∧ Q (.str (i ++ j)) H) ∨ rCatA K x y H Q ∨ rCatR K x y H Q
theorem op_addA : OpR X (binaryOp .Add) (rAddA X.K) := op_add.or (op_add_str.or (op_catA.or op_catR))
def dAdd : D → D → Option D
  | .int i, .int j => some (.int (i + j))
  | .str x, .str y => if x.length + y.length ≤ sizeLine then some (.str (x ++ y)) else none
  | .tuple xs, .tuple ys => if xs.length + ys.length ≤ sizeLine then some (.tuple (xs ++ ys)) else none
  | .list xs, .list ys => if xs.length + ys.length ≤ sizeLine then some (.list (xs ++ ys)) else none
  | _, _ => none
theorem Rps.nil_iff {H : Hp} {vs : List V} {ds : List D} (h : Rps K H vs ds) : vs = [] ↔ ds = [] := by
  cases h <;> simp
theorem os_add : OpS K (rAddA K) dAdd := fun Hs H x y d e c Q ex rx ry hg k => by
  cases rx with
  | int i =>
    cases ry <;> simp [dAdd] at hg
    subst hg
    exact .inl ⟨i, _, rfl, rfl, k _ Hs H (.refl ex) (.int _)⟩
  | str a =>
    cases ry <;> simp [dAdd] at hg
    obtain ⟨hl, hg⟩ := hg
    subst hg
    exact .inr (.inl ⟨a, _, rfl, rfl, hl, k _ Hs H (.refl ex) (.str _)⟩)
  | tup h1 t1 =>
    cases ry with
    | tup h2 t2 =>
      simp [dAdd] at hg
      obtain ⟨hl, hg⟩ := hg
      subst hg
      refine .inr (.inr (.inl ⟨_, _, _, _, rfl, rfl, sqT_ex ex h1, sqT_ex ex h2, by rw [t1.length, t2.length]; exact hl, fun z => ?_, fun z1 z2 => ?_, fun z1 z2 p hp => ?_⟩))
      · have z' := t1.nil_iff.mp z
        subst z'
        exact k _ Hs H (.refl ex) (.tup h2 t2)
      · have z' := t2.nil_iff.mp z2
        subst z'
        exact k _ Hs H (.refl ex) (by rw [List.append_nil]; exact .tup h1 t1)
      · exact k _ _ _ (Gr.new ex hp) (.tup (StT.of upd_same) ((t1.append t2).ex (Gr.new ex hp).s))
    | _ => simp [dAdd] at hg
  | lst h1 t1 =>
    cases ry with
    | lst h2 t2 =>
      simp [dAdd] at hg
      obtain ⟨hl, hg⟩ := hg
      subst hg
      refine .inr (.inr (.inr ⟨_, _, _, _, rfl, rfl, sqL_ex ex h1, sqL_ex ex h2, by rw [t1.length, t2.length]; exact hl, fun p hp => ?_⟩))
      exact k _ _ _ (Gr.new ex hp) (.lst (SqL.of upd_same) ((t1.append t2).ex (Gr.new ex hp).s))
    | _ => simp [dAdd] at hg
  | _ => cases ry <;> simp [dAdd] at hg
/-- two ints -/
def dI (C : Int → Int → Bool) (f : Int → Int → Int) : D → D → Option D
  | .int i, .int j => if C i j then some (.int (f i j)) else none
  | _, _ => none
theorem os_I {P : Int → Int → Prop} {C : Int → Int → Bool} {f : Int → Int → Int} (hC : ∀ i j, C i j = true → P i j) : OpS K (rI P fun i j => .int (f i j)) (dI C f) := fun Hs H x y d e c Q ex rx ry hg k => by
  cases rx with
  | int i =>
    cases ry <;> simp [dI] at hg
    obtain ⟨hc, hg⟩ := hg
    subst hg
    exact ⟨i, _, rfl, rfl, hC _ _ hc, k _ Hs H (.refl ex) (.int _)⟩
  | _ => cases ry <;> simp [dI] at hg
theorem os_I0 {f : Int → Int → Int} : OpS K (rI0 fun i j => .int (f i j)) (dI (fun _ _ => true) f) := fun Hs H x y d e c Q ex rx ry hg k => by
  cases rx with
  | int i =>
    cases ry <;> simp [dI] at hg
    subst hg
    exact ⟨i, _, rfl, rfl, k _ Hs H (.refl ex) (.int _)⟩
  | _ => cases ry <;> simp [dI] at hg
abbrev dSub := dI (fun _ _ => true) (fun i j => i - j)
theorem os_sub : OpS K (rI0 fun i j => .int (i - j)) dSub := os_I0
abbrev dMod := dI (fun _ j => decide (0 < j)) (fun i j => i % j)
theorem os_mod : OpS K (rI (fun _ j => 0 < j) fun i j => .int (i % j)) dMod := os_I fun _ _ h => of_decide_eq_true h
abbrev dDiv := dI (fun _ j => decide (0 < j ∧ j < 4611686018427387904)) (fun i j => i / j)
theorem os_div : OpS K (rI CDivW fun i j => .int (i / j)) dDiv := os_I fun i j h => by
  obtain ⟨h1, h2⟩ := (of_decide_eq_true h : 0 < j ∧ j < 4611686018427387904)
  refine ⟨h1, Nat.lt_trans (Nat.log2_lt (by omega) |>.mpr (?_ : j.natAbs < 2 ^ 62)) (by decide)⟩
  omega
abbrev dPow := dI (fun i j => decide (0 ≤ j ∧ j ≤ 1000000 ∧ i.natAbs < 2 ^ 64)) (fun i j => i ^ j.toNat)
theorem os_pow : OpS K (rI CPow fun i j => .int (i ^ j.toNat)) dPow := os_I fun i j h => (of_decide_eq_true h : 0 ≤ j ∧ j ≤ 1000000 ∧ i.natAbs < 2 ^ 64)
theorem rep_size (a : Array Nat) : ∀ (n : Nat) (acc : Array Nat), ((List.replicate n a).foldl (· ++ ·) acc).size = acc.size + n * a.size
  | 0, acc => by simp
  | n + 1, acc => by
    rw [List.replicate_succ, List.foldl_cons, rep_size a n, Array.size_append, Nat.succ_mul]
    omega
/-- a text some times -/
def strRep (x : Str) (n : Int) : Str := if n < 1 then Str.empty else if (n == 1 || x.length == 0) = true then x else ⟨(List.replicate n.toNat x.cps).foldl (· ++ ·) #[]⟩
def rRepS : R2 := fun x y H Q => ∃ z n, x = .str z ∧ y = .int n ∧ (-1000000 ≤ n ∧ n ≤ 1000000 ∧ z.length ≤ 16) ∧ Q (.str (strRep z n)) H
theorem op_repS : OpR X (binaryOp .Mult) rRepS := by
  intro pins s σ H x y v u Q I rx ry h
  obtain ⟨z, n, e1, e2, ⟨h1, h2, h3⟩, q⟩ := h
  subst e1; subst e2
  obtain ⟨t, rfl⟩ := rx
  obtain ⟨t', rfl⟩ := ry
  have hz : z.length * n.toNat ≤ 16000000 := Nat.le_trans (Nat.mul_le_mul h3 (show n.toNat ≤ 1000000 by omega)) (by decide)
  refine PySem.P.mul_str ?_ (fun a b => ?_) (fun a b => ?_) ?_
  · rw [decide_eq_false (by omega), decide_eq_false (by omega)]; rfl
  · have hn : 1 ≤ n := by omega
    intro hc
    have : (16 : Int) ≤ (2 ^ 63 - 1) / n := by
      refine (Int.le_ediv_iff_mul_le (by omega)).mpr ?_
      omega
    omega
  · unfold Builtin.Str.tooLong
    have h16 : (16000000 : Nat) ≤ sizeLine := by decide
    simp
    omega
  · unfold strRep at q
    split
    · rename_i hn
      rw [if_pos hn] at q
      exact ⟨by decide, ⟨.str Str.empty, H, I.tok _, ⟨_, rfl⟩, q⟩⟩
    · rename_i hn
      rw [if_neg hn] at q
      split
      · rename_i hb
        rw [if_pos hb] at q
        exact ⟨.str z, H, I, ⟨_, rfl⟩, q⟩
      · rename_i hb
        rw [if_neg hb] at q
        refine ⟨?_, ⟨.str _, H, I.tok _, ⟨_, rfl⟩, q⟩⟩
        have h16 : (16000000 : Nat) ≤ sizeLine := by decide
        show (Array.size _) ≤ sizeLine
        rw [rep_size]
        have hm : n.toNat * z.cps.size ≤ 16000000 := by rw [Nat.mul_comm]; exact hz
        simp only [List.size_toArray, List.length_nil]
        omega
end
end Dn
namespace Dn
open PySem PySem.Spec PyProof.Rows L2
section
variable {X : Cx} {K : Frag}
def dMul : D → D → Option D
  | .int i, .int j => if (-(2 ^ 64) < i ∧ i < 2 ^ 64) ∨ (-(2 ^ 64) < j ∧ j < 2 ^ 64) then some (.int (i * j)) else none
  | .str x, .int n => if -1000000 ≤ n ∧ n ≤ 1000000 ∧ x.length ≤ 16 then some (.str (strRep x n)) else none
  | _, _ => none
def rMulA : R2 := fun x y H Q => (rI CMul fun i j => .int (i * j)) x y H Q ∨ rRepS x y H Q
theorem op_mulA : OpR X (binaryOp .Mult) rMulA := op_mul.or op_repS
theorem os_mul : OpS K rMulA dMul := fun Hs H x y d e c Q ex rx ry hg k => by
  cases rx with
  | int i =>
    cases ry <;> simp only [dMul, Option.ite_none_right_eq_some, Option.some.injEq, reduceCtorEq] at hg
    obtain ⟨hc, hg⟩ := hg
    subst hg
    exact .inl ⟨i, _, rfl, rfl, hc, k _ Hs H (.refl ex) (.int _)⟩
  | str z =>
    cases ry <;> simp only [dMul, Option.ite_none_right_eq_some, Option.some.injEq, reduceCtorEq] at hg
    obtain ⟨hc, hg⟩ := hg
    subst hg
    exact .inr ⟨z, _, rfl, rfl, hc, k _ Hs H (.refl ex) (.str _)⟩
  | _ => cases ry <;> simp [dMul] at hg
def dEqB : D → D → Option Bool
  | .str x, .str y => some (decide (x = y))
  | d, e => if SeqAt.shaped d = true ∧ SeqAt.shaped e = true then some (PyData.eqv d e) else none
def dEq (d e : D) : Option D := (dEqB d e).map PyData.bool
def dNe (d e : D) : Option D := (dEqB d e).map fun b => PyData.bool (!b)
def rEqA (K : Frag) (neg : Bool) : R2 := fun x y H Q => (∃ i j, x = .str i ∧ y = .str j ∧ Q (.bl (if neg then !decide (i = j) else decide (i = j))) H) ∨ ∃ d e, Dp K H x d ∧ Dp K H y e ∧ SeqAt.shaped d = true ∧ SeqAt.shaped e = true ∧ Q (.bl (if neg then !PyData.eqv d e else PyData.eqv d e)) H
theorem op_eqA (hu : X.A.units + 64 < cLine) : OpR X (compareOp .Eq) (rEqA X.K false) := by
  refine OpR.or (fun pins s σ H x y v u Q I rx ry h => ?_) (op_eqD hu)
  obtain ⟨i, j, e1, e2, q⟩ := h
  subst e1; subst e2
  refine op_eq pins s σ H _ _ v u Q I rx ry ⟨rfl, ?_⟩
  have e : decide (V.str i = V.str j) = decide (i = j) := by by_cases h : i = j <;> simp [h]
  rw [e]; exact q
theorem op_neA (hu : X.A.units + 64 < cLine) : OpR X (compareOp .NotEq) (rEqA X.K true) := by
  refine OpR.or (fun pins s σ H x y v u Q I rx ry h => ?_) (op_neD hu)
  obtain ⟨i, j, e1, e2, q⟩ := h
  subst e1; subst e2
  refine op_ne pins s σ H _ _ v u Q I rx ry ⟨rfl, ?_⟩
  have e : decide (V.str i = V.str j) = decide (i = j) := by by_cases h : i = j <;> simp [h]
  rw [e]; exact q
theorem eqS {neg : Bool} {Hs H : Hp} {x y : V} {d e : D} {b : Bool} {Q : VK} (ex : Ex Hs H) (rx : Rp K Hs x d) (ry : Rp K Hs y e) (hg : dEqB d e = some b) (q : Q (.bl (if neg then !b else b)) H) : rEqA K neg x y H Q := by
  have gen : (if SeqAt.shaped d = true ∧ SeqAt.shaped e = true then some (PyData.eqv d e) else none) = some b → rEqA K neg x y H Q := fun h => by
    simp only [Option.ite_none_right_eq_some, Option.some.injEq] at h
    obtain ⟨⟨h1, h2⟩, h⟩ := h
    exact .inr ⟨d, e, (rx.ex ex).dp, (ry.ex ex).dp, h1, h2, by rw [h]; exact q⟩
  by_cases hs : ∃ i j, d = .str i ∧ e = .str j
  · obtain ⟨i, j, e1, e2⟩ := hs
    subst e1; subst e2
    cases rx
    cases ry
    have hb : decide (i = j) = b := Option.some.inj hg
    exact .inl ⟨i, j, rfl, rfl, by rw [hb]; exact q⟩
  · refine gen ?_
    rw [← hg]
    cases d <;> first | rfl | (cases e <;> first | rfl | exact absurd ⟨_, _, rfl, rfl⟩ hs)
theorem os_eq : OpS K (rEqA K false) dEq := fun Hs H x y d e c Q ex rx ry hg k => by
  unfold dEq at hg
  cases h : dEqB d e with
  | none => rw [h] at hg; simp at hg
  | some b =>
    rw [h] at hg
    have hc : PyData.bool b = c := by simpa using hg
    subst hc
    exact eqS ex rx ry h (k _ Hs H (.refl ex) (.bl _))
theorem os_ne : OpS K (rEqA K true) dNe := fun Hs H x y d e c Q ex rx ry hg k => by
  unfold dNe at hg
  cases h : dEqB d e with
  | none => rw [h] at hg; simp at hg
  | some b =>
    rw [h] at hg
    have hc : PyData.bool (!b) = c := by simpa using hg
    subst hc
    exact eqS ex rx ry h (k _ Hs H (.refl ex) (.bl _))
/-- order: ints, texts -/
def dOrd (f : Int → Int → Bool) (g : Str → Str → Bool) : D → D → Option D
  | .int i, .int j => some (.bool (f i j))
  | .str x, .str y => some (.bool (g x y))
  | _, _ => none
def rOrd (f : Int → Int → Bool) (g : Str → Str → Bool) : R2 := fun x y H Q => (rI0 fun i j => .bl (f i j)) x y H Q ∨ (∃ i j, x = .str i ∧ y = .str j ∧ Q (.bl (g i j)) H)
theorem os_ord {f : Int → Int → Bool} {g : Str → Str → Bool} : OpS K (rOrd f g) (dOrd f g) := fun Hs H x y d e c Q ex rx ry hg k => by
  cases rx with
  | int i =>
    cases ry <;> simp [dOrd] at hg
    subst hg
    exact .inl ⟨i, _, rfl, rfl, k _ Hs H (.refl ex) (.bl _)⟩
  | str z =>
    cases ry <;> simp [dOrd] at hg
    subst hg
    exact .inr ⟨z, _, rfl, rfl, k _ Hs H (.refl ex) (.bl _)⟩
  | _ => cases ry <;> simp [dOrd] at hg
theorem ob_ord {f : Int → Int → Bool} {g : Str → Str → Bool} : OpB K (rOrd f g) (dOrd f g) := fun Hs H x y d e k Q ex rx ry hg q => by
  cases rx with
  | int i =>
    cases ry <;> simp [dOrd, toB] at hg
    subst hg
    exact .inl ⟨i, _, rfl, rfl, q⟩
  | str z =>
    cases ry <;> simp [dOrd, toB] at hg
    subst hg
    exact .inr ⟨z, _, rfl, rfl, q⟩
  | _ => cases ry <;> simp [dOrd] at hg
abbrev dLt := dOrd (fun i j => decide (i < j)) (fun x y => decide (x.cps.toList < y.cps.toList))
abbrev dLe := dOrd (fun i j => decide (i ≤ j)) (fun x y => !decide (y.cps.toList < x.cps.toList))
abbrev dGt := dOrd (fun i j => decide (j < i)) (fun x y => decide (y.cps.toList < x.cps.toList))
abbrev dGe := dOrd (fun i j => decide (j ≤ i)) (fun x y => !decide (x.cps.toList < y.cps.toList))
theorem op_ltA : OpR X (compareOp .Lt) (rOrd (fun i j => decide (i < j)) (fun x y => decide (x.cps.toList < y.cps.toList))) := op_lt.or op_lt_str
theorem op_leA : OpR X (compareOp .LtE) (rOrd (fun i j => decide (i ≤ j)) (fun x y => !decide (y.cps.toList < x.cps.toList))) := op_le.or op_le_str
theorem op_gtA : OpR X (compareOp .Gt) (rOrd (fun i j => decide (j < i)) (fun x y => decide (y.cps.toList < x.cps.toList))) := op_gt.or op_gt_str
theorem op_geA : OpR X (compareOp .GtE) (rOrd (fun i j => decide (j ≤ i)) (fun x y => !decide (x.cps.toList < y.cps.toList))) := op_ge.or op_ge_str
def flatD : D → Bool
  | .none => true
  | .bool _ => true
  | .int _ => true
  | .str _ => true
  | _ => false
theorem flat_v {H : Hp} {v : V} {d : D} (r : Rp K H v d) (h : flatD d = true) : flatV v = true := by
  cases r <;> first | rfl | exact absurd h (by simp [flatD])
theorem flat_vs {H : Hp} : ∀ {vs : List V} {ds : List D}, Rps K H vs ds → ds.all flatD = true → vs.all flatV = true
  | _, _, .nil, _ => rfl
  | _, _, .cons r t, h => by
    rw [List.all_cons, Bool.and_eq_true] at h ⊢
    exact ⟨flat_v r h.1, flat_vs t h.2⟩
theorem eqv_v {H : Hp} {v w : V} {d e : D} (r : Rp K H v d) (q : Rp K H w e) (h : flatD d = true) (h' : flatD e = true) : eqV v w = PyData.eqv d e := by
  cases r <;> cases q <;> first | (simp [flatD] at h; done) | (simp [flatD] at h'; done) | (simp [eqV, PyData.eqv])
def inD (d : D) (ds : List D) : Bool := ds.any fun z => PyData.eqv z d
theorem in_v {H : Hp} {v : V} {d : D} (r : Rp K H v d) (h : flatD d = true) : ∀ {vs : List V} {ds : List D}, Rps K H vs ds → ds.all flatD = true → inV v vs = inD d ds
  | _, _, .nil, _ => rfl
  | _, _, .cons q t, h' => by
    rw [List.all_cons, Bool.and_eq_true] at h'
    have ih := in_v r h t h'.2
    unfold inV inD at ih ⊢
    rw [List.any_cons, List.any_cons, eqv_v q r h'.1 h, ih]
/-- a text in a text -/
def strIn (x y : Str) : Bool := match x.cps.toList with
  | [c] => decide (c ∈ y.cps.toList)
  | _ => !(Builtin.Str.occurrences y x 0 y.length 1).isEmpty
def dInB : D → D → Option Bool
  | .str x, .str y => some (strIn x y)
  | d, .list ds => if flatD d = true ∧ ds.all flatD = true then some (inD d ds) else none
  | d, .tuple ds => if flatD d = true ∧ ds.all flatD = true then some (inD d ds) else none
  | _, _ => none
def dIn (d e : D) : Option D := (dInB d e).map PyData.bool
def dNotIn (d e : D) : Option D := (dInB d e).map fun b => PyData.bool (!b)
def rInA (K : Frag) (neg : Bool) : R2 := fun x y H Q => rIn K neg x y H Q ∨ (∃ (c : Nat) (z : Str), x = .str ⟨#[c]⟩ ∧ y = .str z ∧ Q (.bl (if neg then !decide (c ∈ z.cps.toList) else decide (c ∈ z.cps.toList))) H) ∨
  (∃ i j, x = .str i ∧ y = .str j ∧ Q (.bl (if neg then !(!(Builtin.Str.occurrences j i 0 j.length 1).isEmpty) else !(Builtin.Str.occurrences j i 0 j.length 1).isEmpty)) H)
theorem op_inA : OpR X (compareOp .In) (rInA X.K false) := op_in_seq.or (op_in_sign.or op_in_str)
theorem op_notInA : OpR X (compareOp .NotIn) (rInA X.K true) := op_notIn_seq.or (op_notIn_sign.or L2.op_notIn_str)
theorem strIn_one {x y : Str} {c : Nat} (h : x = ⟨#[c]⟩) : strIn x y = decide (c ∈ y.cps.toList) := by subst h; rfl
theorem inS {neg : Bool} {Hs H : Hp} {x y : V} {d e : D} {b : Bool} {Q : VK} (ex : Ex Hs H) (rx : Rp K Hs x d) (ry : Rp K Hs y e) (hg : dInB d e = some b) (q : Q (.bl (if neg then !b else b)) H) : rInA K neg x y H Q := by
  have seq : ∀ {p : Addr} {vs : List V} {ds : List D}, y = .ref p → (SqL K H p vs ∨ SqT K H p vs) → Rps K Hs vs ds → (if flatD d = true ∧ ds.all flatD = true then some (inD d ds) else none) = some b → rInA K neg x y H Q := fun {p vs ds} ey hs t h => by
    simp only [Option.ite_none_right_eq_some, Option.some.injEq] at h
    obtain ⟨⟨h1, h2⟩, h⟩ := h
    refine .inl ⟨p, vs, ey, hs, flat_v rx h1, flat_vs t h2, ?_⟩
    rw [in_v rx h1 t h2, h]
    exact q
  cases ry with
  | str z =>
    cases rx with
    | str x =>
      have hb : strIn x z = b := Option.some.inj hg
      by_cases hx : ∃ c, x = ⟨#[c]⟩
      · obtain ⟨c, hc⟩ := hx
        rw [strIn_one hc] at hb
        exact .inr (.inl ⟨c, z, by rw [hc], rfl, by rw [hb]; exact q⟩)
      · refine .inr (.inr ⟨x, z, rfl, rfl, ?_⟩)
        have hb' : (!(Builtin.Str.occurrences z x 0 z.length 1).isEmpty) = b := by
          rw [← hb]
          unfold strIn
          split
          · rename_i c hc
            refine absurd ⟨c, ?_⟩ hx
            cases x with
            | mk cps =>
              have : cps = #[c] := by rw [← Array.toList_inj]; exact hc
              rw [this]
          · rfl
        rw [hb']
        exact q
    | _ => simp [dInB] at hg
  | lst h1 t1 => exact seq rfl (.inl (sqL_ex ex h1)) t1 (by cases rx <;> simpa [dInB] using hg)
  | tup h1 t1 => exact seq rfl (.inr (sqT_ex ex h1)) t1 (by cases rx <;> simpa [dInB] using hg)
  | _ => cases rx <;> simp [dInB] at hg
theorem os_in : OpS K (rInA K false) dIn := fun Hs H x y d e c Q ex rx ry hg k => by
  unfold dIn at hg
  cases h : dInB d e with
  | none => rw [h] at hg; simp at hg
  | some b =>
    rw [h] at hg
    have hc : PyData.bool b = c := by simpa using hg
    subst hc
    exact inS ex rx ry h (k _ Hs H (.refl ex) (.bl _))
theorem os_notIn : OpS K (rInA K true) dNotIn := fun Hs H x y d e c Q ex rx ry hg k => by
  unfold dNotIn at hg
  cases h : dInB d e with
  | none => rw [h] at hg; simp at hg
  | some b =>
    rw [h] at hg
    have hc : PyData.bool (!b) = c := by simpa using hg
    subst hc
    exact inS ex rx ry h (k _ Hs H (.refl ex) (.bl _))
@[reducible] def isN : D → Bool
  | .none => true
  | _ => false
def dIsB : D → D → Option Bool
  | .bool a, .bool b => some (decide (a = b))
  | d, .none => some (isN d)
  | _, _ => none
def dIs (d e : D) : Option D := (dIsB d e).map PyData.bool
def dIsNot (d e : D) : Option D := (dIsB d e).map fun b => PyData.bool (!b)
def dIx : D → D → Option D
  | .list xs, .int i => atI xs i
  | .tuple xs, .int i => atI xs i
  | .str z, .int i => if z.length ≤ sizeLine then (atI z.cps.toList i).map fun c => .str ⟨#[c]⟩ else none
  | _, _ => none
theorem atI_rps {H : Hp} {vs : List V} {ds : List D} {i : Int} {d : D} (t : Rps K H vs ds) (h : atI ds i = some d) : ∃ v, atI vs i = some v ∧ Rp K H v d := by
  unfold atI at h ⊢
  rw [t.length]
  cases q : ixN ds.length i with
  | none => rw [q] at h; simp at h
  | some j =>
    rw [q] at h
    simp only [Option.bind_some] at h ⊢
    exact t.get h
theorem os_ix : OpS K (rIx K) dIx := fun Hs H x y d e c Q ex rx ry hg k => by
  cases ry with
  | int i =>
    cases rx with
    | lst h t =>
      obtain ⟨v, h1, h2⟩ := atI_rps t hg
      exact .inl ⟨_, _, i, v, rfl, rfl, sqL_ex ex h, h1, k v Hs H (.refl ex) h2⟩
    | tup h t =>
      obtain ⟨v, h1, h2⟩ := atI_rps t hg
      exact .inr (.inl ⟨_, _, i, v, rfl, rfl, sqT_ex ex h, h1, k v Hs H (.refl ex) h2⟩)
    | str z =>
      simp only [dIx, Option.ite_none_right_eq_some, Option.map_eq_some_iff] at hg
      obtain ⟨hl, a, ha, hg⟩ := hg
      subst hg
      exact .inr (.inr ⟨z, i, a, rfl, rfl, hl, ha, k _ Hs H (.refl ex) (.str _)⟩)
    | _ => simp [dIx] at hg
  | _ => cases rx <;> simp [dIx] at hg
def cutD (xs : List D) (lo hi : Option Int) : List D := (xs.drop (HT.sIx xs.length 0 lo)).take (HT.sIx xs.length xs.length hi - HT.sIx xs.length 0 lo)
def dSl (d : D) (lo hi : Option Int) : Option D := match d with
  | .str z => if z.length ≤ sizeLine then some (.str (cutS z lo hi)) else none
  | .tuple xs => some (.tuple (cutD xs lo hi))
  | .list xs => some (.list (cutD xs lo hi))
  | _ => none
theorem cut_rps {H : Hp} {vs : List V} {ds : List D} {lo hi : Option Int} (t : Rps K H vs ds) : Rps K H (cutV vs lo hi) (cutD ds lo hi) := by
  unfold cutV cutD
  rw [t.length]
  exact (t.drop _).take _
def rSlZ (K : Frag) : V → Option Int → Option Int → Hp → VK → Prop := fun x lo hi H Q => rSlS x lo hi H Q ∨ rSlA K x lo hi H Q ∨ rSlL K x lo hi H Q
theorem sl_Z : SlR X (rSlZ X.K) := sl_str.or (sl_tupA.or sl_list)
theorem sl_whole {xs : List D} {lo hi : Option Int} (h : HT.sIx xs.length 0 lo = 0 ∧ HT.sIx xs.length xs.length hi = xs.length) : cutD xs lo hi = xs := by
  unfold cutD
  rw [h.1, h.2]
  simp
theorem slS {Hs H : Hp} {x : V} {d c : D} {lo hi : Option Int} {Q : VK} (ex : Ex Hs H) (rx : Rp K Hs x d) (hg : dSl d lo hi = some c) (k : ∀ v Hs' H', Gr Hs H Hs' H' → Rp K Hs' v c → Q v H') : rSlZ K x lo hi H Q := by
  cases rx with
  | str z =>
    simp only [dSl, Option.ite_none_right_eq_some, Option.some.injEq] at hg
    obtain ⟨hl, hg⟩ := hg
    subst hg
    exact .inl ⟨z, rfl, hl, k _ Hs H (.refl ex) (.str _)⟩
  | tup h t =>
    obtain rfl := Option.some.inj hg
    refine .inr (.inl ⟨_, _, rfl, sqT_ex ex h, fun z => ?_, fun z p hp => ?_⟩)
    · rw [t.length] at z
      rw [sl_whole z] at k
      exact k _ Hs H (.refl ex) (.tup h t)
    · exact k _ _ _ (Gr.new ex hp) (.tup (StT.of upd_same) ((cut_rps t).ex (Gr.new ex hp).s))
  | lst h t =>
    obtain rfl := Option.some.inj hg
    refine .inr (.inr ⟨_, _, rfl, sqL_ex ex h, fun p hp => ?_⟩)
    exact k _ _ _ (Gr.new ex hp) (.lst (SqL.of upd_same) ((cut_rps t).ex (Gr.new ex hp).s))
  | _ => simp [dSl] at hg
end
section
variable {X : Cx} {E : XQ} {ps : List Nat} {a b e : Expr} {pos : Pos} {ma mb m : M D}
theorem je_ix (ha : PE X a (tOf X.K E ps ma)) (hb : PE X b (tOf X.K E ps mb)) (hs : PlainIx b) : PE X (.Subscript a b pos) (tOf X.K E ps (mBin dIx ma mb)) :=
  pe_imp (pe_ix ix_seq ha hb hs) fun _ _ _ h => binS os_ix h
/-- a part of a slice -/
def tOfP (K : Frag) (E : XQ) (ps : List Nat) (m : M (Option Int)) : TO := fun σ H Q => Cf K E ps m σ H fun _ o _ H' _ => Q o H'
def toI : D → Option (Option Int)
  | .int i => some (some i)
  | _ => none
def mPart (m : M D) : M (Option Int) := mBind m fun d => mOpt (toI d)
def mNoPart : M (Option Int) := mPure none
theorem jp_none : PO X none (tOfP X.K E ps mNoPart) := ⟨fun pins s σ H Q I ⟨W, Hs, δ, hp, re, po⟩ => po_none.run pins s σ H Q I (Post.of po re)⟩
theorem jp_some (h : PE X e (tOf X.K E ps m)) : PO X (some e) (tOfP X.K E ps (mPart m)) := ⟨fun pins s σ H Q I ⟨W, Hs, δ, hp, re, po⟩ => (po_some h).run pins s σ H Q I (by
  refine tOf.step hp re po fun x d Hs1 H1 δ1 e1 re1 r1 po1 => ?_
  obtain ⟨c, hc, po3⟩ := Post.opt po1
  cases r1 <;> simp [toI] at hc
  subst hc
  exact ⟨_, rfl, Post.of po3 re1⟩)⟩
def mSl (m : M D) (ml mh : M (Option Int)) : M D := mBind m fun d => mBind ml fun l => mBind mh fun h => mOpt (dSl d l h)
theorem je_slice {lo hi : Option Expr} {ml mh : M (Option Int)} {p2 : Pos} (he : PE X e (tOf X.K E ps m)) (hl : PO X lo (tOfP X.K E ps ml)) (hu : PO X hi (tOfP X.K E ps mh)) : PE X (.Subscript e (.Slice lo hi none p2) pos) (tOf X.K E ps (mSl m ml mh)) :=
  pe_imp (pe_slice sl_Z he hl hu) fun σ H Q ⟨W, Hs, δ, hp, re, po⟩ => by
    refine tOf.step hp re po fun x d Hs1 H1 δ1 e1 re1 r1 po1 => ?_
    refine Cf.step hp re1 po1 fun l Hs2 H2 δ2 e2 re2 po2 => ?_
    refine Cf.step hp re2 po2 fun u Hs3 H3 δ3 e3 re3 po3 => ?_
    obtain ⟨c, hc, po4⟩ := Post.opt po3
    exact slS re3.ex ((r1.ex e2).ex e3) hc fun v Hs' H' g rv => Post.grow po4 re3 g v rv
variable {t1 t2 : M Bool} {rest : List Expr}
def mAndT (t1 t2 : M Bool) : M Bool := mBind t1 fun b => if b then t2 else mPure false
def mOrT (t1 t2 : M Bool) : M Bool := mBind t1 fun b => if b then mPure true else t2
def mNotT (t : M Bool) : M Bool := mBind t fun b => mPure (!b)
theorem jt_not (h : PT X a (tOfT X.K E ps t1)) : PT X (.UnaryOp .Not a pos) (tOfT X.K E ps (mNotT t1)) :=
  pt_imp (pt_not h) fun σ H Q ⟨W, Hs, δ, hp, re, po⟩ => tOfT.step hp re po fun b Hs1 H1 δ1 e1 re1 po1 => Post.of po1 re1
theorem jw_and1 (h : PT X a (tOfT X.K E ps t1)) : PW X (.BoolOp .And [a] pos) (tOfT X.K E ps t1) := pw_and1 h
theorem jw_or1 (h : PT X a (tOfT X.K E ps t1)) : PW X (.BoolOp .Or [a] pos) (tOfT X.K E ps t1) := pw_or1 h
theorem jw_and (h : PT X a (tOfT X.K E ps t1)) (h2 : PW X (.BoolOp .And (b :: rest) pos) (tOfT X.K E ps t2)) : PW X (.BoolOp .And (a :: b :: rest) pos) (tOfT X.K E ps (mAndT t1 t2)) :=
  pw_imp (pw_and h h2) fun σ H Q ⟨W, Hs, δ, hp, re, po⟩ => tOfT.step hp re po fun b Hs1 H1 δ1 e1 re1 po1 => by
    cases b with
    | true => exact Cf.last hp re1 po1
    | false => exact Post.of po1 re1
theorem jw_or (h : PT X a (tOfT X.K E ps t1)) (h2 : PW X (.BoolOp .Or (b :: rest) pos) (tOfT X.K E ps t2)) : PW X (.BoolOp .Or (a :: b :: rest) pos) (tOfT X.K E ps (mOrT t1 t2)) :=
  pw_imp (pw_or h h2) fun σ H Q ⟨W, Hs, δ, hp, re, po⟩ => tOfT.step hp re po fun b Hs1 H1 δ1 e1 re1 po1 => by
    cases b with
    | true => exact Post.of po1 re1
    | false => exact Cf.last hp re1 po1
/-- .. as values, all True or False but the last -/
def mAndV (m1 m2 : M D) : M D := mBind (mTest m1) fun b => if b then m2 else mPure (.bool false)
def mOrV (m1 m2 : M D) : M D := mBind (mTest m1) fun b => if b then mPure (.bool true) else m2
def mNotV (m : M D) : M D := mBind (mTest m) fun b => mPure (.bool (!b))
theorem testV {W : Wd} {Hs H : Hp} {σ : L2.St} {δ : Env} {β : Type} {f : Bool → M β} {QQ : β → Hp → Hp → Env → Prop} {K : Frag} {R : V → Hp → Prop} (hp : W.pn.map (·.1) = ps) (re : RE K W Hs H σ δ) (po : Post K E W Hs σ (mBind (mTest m) f δ) QQ)
    (k : ∀ b Hs1 H1 δ1, Ex Hs Hs1 → RE K W Hs1 H1 σ δ1 → Post K E W Hs1 σ (f b δ1) QQ → R (.bl b) H1) : tOf K E ps m σ H R := by
  have po' : Post K E W Hs σ (mBind m (fun d => mBind (mOpt (toB d)) f) δ) QQ := by
    have e : mBind (mTest m) f δ = mBind m (fun d => mBind (mOpt (toB d)) f) δ := by
      unfold mTest mBind
      cases m δ <;> rfl
    rw [← e]; exact po
  refine tOf.step hp re po' fun x d Hs1 H1 δ1 e1 re1 r1 po1 => ?_
  cases r1 with
  | bl b => exact k b Hs1 H1 δ1 e1 re1 po1
  | _ => exact po1.elim
theorem je_and (h : PE X a (tOf X.K E ps ma)) (h2 : PE X (.BoolOp .And (b :: rest) pos) (tOf X.K E ps mb)) : PE X (.BoolOp .And (a :: b :: rest) pos) (tOf X.K E ps (mAndV ma mb)) :=
  pe_imp (pe_and h h2) fun σ H Q ⟨W, Hs, δ, hp, re, po⟩ => testV hp re po fun b Hs1 H1 δ1 e1 re1 po1 => ⟨b, rfl, by
    cases b with
    | true => exact Cf.last hp re1 po1
    | false => exact Post.of po1 re1 _ (.bl false)⟩
theorem je_one {op : BoolOp} (h : PE X a (tOf X.K E ps ma)) : PE X (.BoolOp op [a] pos) (tOf X.K E ps ma) := pe_one h
theorem je_not (h : PE X a (tOf X.K E ps ma)) : PE X (.UnaryOp .Not a pos) (tOf X.K E ps (mNotV ma)) :=
  pe_imp (pe_not h) fun σ H Q ⟨W, Hs, δ, hp, re, po⟩ => testV hp re po fun b Hs1 H1 δ1 e1 re1 po1 => ⟨b, rfl, Post.of po1 re1 _ (.bl _)⟩
def mIfE (t : M Bool) (m1 m2 : M D) : M D := mBind t fun b => if b then m1 else m2
theorem je_if {c : Expr} (hc : PT X c (tOfT X.K E ps t1)) (h : PE X a (tOf X.K E ps ma)) (h2 : PE X b (tOf X.K E ps mb)) : PE X (.IfExp c a b pos) (tOf X.K E ps (mIfE t1 ma mb)) :=
  pe_imp (pe_ifExp hc h h2) fun σ H Q ⟨W, Hs, δ, hp, re, po⟩ => tOfT.step hp re po fun b Hs1 H1 δ1 e1 re1 po1 => by
    cases b with
    | true => exact Cf.last hp re1 po1
    | false => exact Cf.last hp re1 po1
/-- -n -/
def dNeg : D → Option D
  | .int i => some (.int (-i))
  | _ => none
def mNeg (m : M D) : M D := mBind m fun d => mOpt (dNeg d)
theorem je_neg (h : PE X a (tOf X.K E ps ma)) : PE X (.UnaryOp .USub a pos) (tOf X.K E ps (mNeg ma)) :=
  pe_imp (pe_un un_neg h) fun σ H Q ⟨W, Hs, δ, hp, re, po⟩ => tOf.step hp re po fun x d Hs1 H1 δ1 e1 re1 r1 po1 => by
    obtain ⟨c, hc, po3⟩ := Post.opt po1
    cases r1 <;> simp [dNeg] at hc
    subst hc
    exact ⟨_, rfl, Post.of po3 re1 _ (.int _)⟩
variable {c : Expr} {mc : M D}
theorem je_chain {op op' : CmpOp} {r r' : R2} {g g' : D → D → Option D} (ho : OpR X (compareOp op) r) (ho' : OpR X (compareOp op') r') (hr : OpB X.K r g) (hr' : OpS X.K r' g') (ha : PE X a (tOf X.K E ps ma)) (hb : PE X b (tOf X.K E ps mb)) (hc : PE X c (tOf X.K E ps mc))
    (hm : lastMarks [op, op'] [b, c] = false := by with_unfolding_all rfl) : PE X (.Compare a [op, op'] [b, c] pos) (tOf X.K E ps (mChain g g' ma mb mc)) :=
  pe_imp (pe_chain ho ho' ha hb hc hm) fun _ _ _ h => chainS hr hr' h
theorem jt_chain {op op' : CmpOp} {r r' : R2} {g g' : D → D → Option D} (ho : OpR X (compareOp op) r) (ho' : OpR X (compareOp op') r') (hr : OpB X.K r g) (hr' : OpS X.K r' g') (ha : PE X a (tOf X.K E ps ma)) (hb : PE X b (tOf X.K E ps mb)) (hc : PE X c (tOf X.K E ps mc))
    (hm : lastMarks [op, op'] [b, c] = false := by with_unfolding_all rfl) : PT X (.Compare a [op, op'] [b, c] pos) (tOfT X.K E ps (mTest (mChain g g' ma mb mc))) :=
  pt_imp (pt_chain ho ho' ha hb hc hm) fun _ _ _ h => testS (fun _ _ _ z => chainS hr hr' z) h
end
end Dn
namespace Dn
open PySem PySem.Spec PyProof.Rows L2
inductive AM where
  | e (m : M D)
  | o (i : Nat)
def mOwn (i : Nat) : M (List D) := fun δ => match δ[i]? with
  | some (.ow xs) => .ok xs δ
  | _ => .bad
def evA : List AM → M (List Ag)
  | [] => mPure []
  | .e m :: as => mBind m fun d => mBind (evA as) fun gs => mPure (.sh d :: gs)
  | .o i :: as => mBind (mOwn i) fun _ => mBind (evA as) fun gs => mPure (.ow i :: gs)
def shs : List Ag → Option (List D)
  | [] => some []
  | .sh d :: gs => (shs gs).map (d :: ·)
  | .ow _ :: _ => none
section
variable {K : Frag} {W : Wd} {Hs H H' : Hp} {σ : L2.St} {δ : Env} {E : XQ} {ps : List Nat}
theorem shs_rps : ∀ {vs : List V} {gs : List Ag} {ds : List D}, AgR K Hs σ vs gs → shs gs = some ds → Rps K Hs vs ds
  | [], [], ds, _, h => by obtain rfl := Option.some.inj h; exact .nil
  | [], _ :: _, _, h, _ => h.elim
  | _ :: _, [], _, h, _ => h.elim
  | v :: vs, .sh d :: gs, ds, h, q => by
    unfold shs at q
    cases z : shs gs with
    | none => rw [z] at q; simp at q
    | some es =>
      rw [z] at q
      have e : d :: es = ds := by simpa using q
      subst e
      exact .cons h.1 (shs_rps h.2 z)
  | _ :: _, .ow _ :: _, _, _, q => by simp [shs] at q
/-- new things that no name reaches -/
theorem RE.newH (r : RE K W Hs H σ δ) (e : Ex H H') : RE K W Hs H' σ δ :=
  r.grow ⟨Ex.refl _, e, r.ex.trans e, fun _ _ => rfl⟩
/-- a fresh list becomes shared data -/
theorem RE.freeze {a : Addr} {xs : List D} (r : RE K W Hs H σ δ) (f : FrO K W Hs H σ δ a xs) : ∃ Hs', Ex Hs Hs' ∧ RE K W Hs' H σ δ ∧ Rp K Hs' (.ref a) (.list xs) := by
  obtain ⟨vs, h1, h2⟩ := f.at_
  have e : Ex Hs (upd Hs a (.lst vs)) := ex_new f.hs
  refine ⟨upd Hs a (.lst vs), e, ?_, .lst (SqL.of upd_same) (h2.ex e)⟩
  exact {
    ex := fun b o q => by
      by_cases hb : b = a
      · subst hb; rw [upd_same] at q; cases q; exact h1
      · rw [upd_ne hb] at q; exact r.ex b o q
    fg := fun b o q => by
      have hb : b ≠ a := fun z => by rw [z, f.g] at q; cases q
      rw [upd_ne hb]; exact r.fg b o q
    len := r.len
    sh := fun i d q => by
      obtain ⟨v, q1, q2⟩ := r.sh i d q
      exact ⟨v, q1, q2.ex e⟩
    ow := fun i s q w => by
      obtain ⟨b, o, q1, q2, q3, q4, q5⟩ := r.ow i s q w
      have hb : b ≠ a := fun z => f.ne i s q w (z ▸ q1)
      exact ⟨b, o, q1, q2, q3.ex e, by rw [upd_ne hb]; exact q4, q5⟩
    ap := r.ap
    pin := r.pin }
end
section
variable {X : Cx} {E : XQ} {ps : List Nat} {a b e o : Expr} {es : List Expr} {pos : Pos} {ma mb m : M D} {as : List AM}
theorem ja_nil : PA X [] (tOfA X.K E ps (evA [])) := pa_imp pa_nil fun σ H Q ⟨W, Hs, δ, hp, re, po⟩ => Post.of po re [] trivial
def CallS (K : Frag) (r : List V → Hp → VK → Prop) (g : List D → Option D) : Prop := ∀ Hs H vs ds c (Q : VK), Ex Hs H → Rps K Hs vs ds → g ds = some c → (∀ v Hs' H', Gr Hs H Hs' H' → Rp K Hs' v c → Q v H') → r vs H Q
def mCallB (g : List D → Option D) (as : List AM) : M D := mBind (evA as) fun gs => mOpt ((shs gs).bind g)
theorem callS {r : List V → Hp → VK → Prop} {g : List D → Option D} (hr : CallS X.K r g) {σ : L2.St} {H : Hp} {Q : VK} (h : tOf X.K E ps (mCallB g as) σ H Q) : tCB r (tOfA X.K E ps (evA as)) σ H Q := by
  obtain ⟨W, Hs, δ, hp, re, po⟩ := h
  refine tOfA.step hp re po fun vs gs Hs1 H1 δ1 e1 re1 r1 po1 => ?_
  obtain ⟨c, hc, po2⟩ := Post.opt po1
  obtain ⟨ds, h1, h2⟩ := Option.bind_eq_some_iff.mp hc
  exact hr Hs1 H1 vs ds c Q re1.ex (shs_rps r1 h1) h2 fun v Hs' H' g rv => Post.grow po2 re1 g v rv
theorem je_callB {x : Str} {p : Pos} {id : String} {r : List V → Hp → VK → Prop} {g : List D → Option D} (hc : CallR X (.builtin id) r) (hr : CallS X.K r g) (hg : Gl X x) (hm : X.mg x = none) (hv : bootBuiltins x = some (.builtin id)) (ha : PA X (e :: es) (tOfA X.K E ps (evA as))) (hn : x ≠ "__name__" := by decide) (hdb : (x == ("__debug__" : Str)) = false := by decide)
    (he : starEach (e :: es) X.env = (false, eval e X.env) :: starEach es X.env := by rfl) (hpl : (backTo pos (starEach es X.env)).any (·.1) = false := by rfl) : PE X (.Call (.Name x p) (e :: es) [] pos) (tOf X.K E ps (mCallB g as)) :=
  pe_imp (pe_callB hc hg hm hv ha hn hdb he hpl) fun _ _ _ h => callS hr h
theorem je_callTy {x : Str} {p : Pos} {T : String} {r : List V → Hp → VK → Prop} {g : List D → Option D} (hc : CallR X (.type T) r) (hr : CallS X.K r g) (hg : Gl X x) (hm : X.mg x = none) (hv : bootBuiltins x = some (.type T)) (ha : PA X (e :: es) (tOfA X.K E ps (evA as))) (hn : x ≠ "__name__" := by decide) (hdb : (x == ("__debug__" : Str)) = false := by decide)
    (he : starEach (e :: es) X.env = (false, eval e X.env) :: starEach es X.env := by rfl) (hpl : (backTo pos (starEach es X.env)).any (·.1) = false := by rfl) : PE X (.Call (.Name x p) (e :: es) [] pos) (tOf X.K E ps (mCallB g as)) :=
  pe_imp (pe_callTy hc hg hm hv ha hn hdb he hpl) fun _ _ _ h => callS hr h
theorem flat_free {K : Frag} {H H' : Hp} {v : V} {d : D} (r : Rp K H v d) (h : flatD d = true) : Rp K H' v d := by
  cases r with
  | non => exact .non
  | bl b => exact .bl b
  | int i => exact .int i
  | str x => exact .str x
  | _ => simp [flatD] at h
theorem ex_upd {Hs H : Hp} {q : Addr} {u : HO} (e : Ex Hs H) (h : H q = some u) : Ex (upd Hs q u) H := fun c w z => by
  by_cases hc : c = q
  · subst hc; rw [upd_same] at z; cases z; exact h
  · rw [upd_ne hc] at z; exact e c w z
/-- own things lent for a while: what is handed back is flat, so nothing of them stays -/
theorem lent {K : Frag} {W : Wd} {Hs H : Hp} {σ : L2.St} {δ : Env} {i : Nat} {xs : List D} (re : RE K W Hs H σ δ) (hx : δ[i]? = some (Sl.ow xs)) :
    ∃ (q : Addr) (Hb : Hp), σ[i]? = some (some (V.ref q)) ∧ Ex Hs Hb ∧ Ex Hb H ∧ Rp K Hb (.ref q) (.list xs) ∧ H q ≠ none ∧ tyV K "list" (.ref q) H ∧ ∃ vs, H q = some (.lst vs) ∧ Rps K Hs vs xs := by
  obtain ⟨q, u, h1, h2, h3, h4, h5⟩ := re.ow i _ hx rfl
  cases u with
  | lst vs =>
    have e : Ex Hs (upd Hs q (.lst vs)) := ex_new h4
    exact ⟨q, upd Hs q (.lst vs), h1, e, ex_upd re.ex h2, .lst (SqL.of upd_same) (Rps.ex e h3), by rw [h2]; simp, .inl ⟨rfl, vs, .inl (.inl h2)⟩, vs, h2, h3⟩
  | _ => exact h3.elim
def bLen : List D → Option D
  | [.str z] => if z.length ≤ sizeLine then some (.int z.length) else none
  | [.list xs] => some (.int xs.length)
  | [.tuple xs] => some (.int xs.length)
  | _ => none
def rLenA (K : Frag) : List V → Hp → VK → Prop := fun xs H Q => (∃ p ys, xs = [.ref p] ∧ (SqL K H p ys ∨ SqT K H p ys) ∧ Q (.int ys.length) H) ∨ ∃ z, xs = [.str z] ∧ z.length ≤ sizeLine ∧ Q (.int z.length) H
theorem call_lenA : CallR X (.builtin "len") (rLenA X.K) := call_len_seq.or call_len_str
theorem cs_len {K : Frag} : CallS K (rLenA K) bLen := fun Hs H vs ds c Q ex t hg k => by
  cases t with
  | nil => simp [bLen] at hg
  | cons r t =>
    cases t with
    | cons _ _ => cases r <;> simp [bLen] at hg
    | nil =>
      cases r with
      | str z =>
        simp only [bLen, Option.ite_none_right_eq_some, Option.some.injEq] at hg
        obtain ⟨hl, hg⟩ := hg
        subst hg
        exact .inr ⟨z, rfl, hl, k _ Hs H (.refl ex) (.int _)⟩
      | lst h t =>
        obtain rfl := Option.some.inj hg
        exact .inl ⟨_, _, rfl, .inl (sqL_ex ex h), by rw [t.length]; exact k _ Hs H (.refl ex) (.int _)⟩
      | tup h t =>
        obtain rfl := Option.some.inj hg
        exact .inl ⟨_, _, rfl, .inr (sqT_ex ex h), by rw [t.length]; exact k _ Hs H (.refl ex) (.int _)⟩
      | _ => simp [bLen] at hg
def bInt : List D → Option D
  | [.int i] => some (.int i)
  | [.bool b] => some (.int (if b then 1 else 0))
  | _ => none
theorem cs_int {K : Frag} : CallS K (fun xs H Q => (∃ i, xs = [.int i] ∧ Q (.int i) H) ∨ ∃ k, xs = [.bl k] ∧ Q (.int (if k then 1 else 0)) H) bInt := fun Hs H vs ds c Q ex t hg k => by
  cases t with
  | nil => simp [bInt] at hg
  | cons r t =>
    cases t with
    | cons _ _ => cases r <;> simp [bInt] at hg
    | nil =>
      cases r with
      | int i =>
        obtain rfl := Option.some.inj hg
        exact .inl ⟨i, rfl, k _ Hs H (.refl ex) (.int _)⟩
      | bl b =>
        obtain rfl := Option.some.inj hg
        exact .inr ⟨b, rfl, k _ Hs H (.refl ex) (.int _)⟩
      | _ => simp [bInt] at hg
def bII (f : Int → Int → Int) : List D → Option D
  | [.int i, .int j] => some (.int (f i j))
  | _ => none
theorem cs_II {K : Frag} {f : Int → Int → Int} : CallS K (fun xs H Q => ∃ i j, xs = [.int i, .int j] ∧ Q (.int (f i j)) H) (bII f) := fun Hs H vs ds c Q ex t hg k => by
  cases t with
  | nil => simp [bII] at hg
  | cons r t =>
    cases t with
    | nil => cases r <;> simp [bII] at hg
    | cons r' t =>
      cases t with
      | cons _ _ => cases r <;> cases r' <;> simp [bII] at hg
      | nil =>
        cases r <;> cases r' <;> simp [bII] at hg
        subst hg
        exact ⟨_, _, rfl, k _ Hs H (.refl ex) (.int _)⟩
def bTuple : List D → Option D
  | [.list xs] => some (.tuple xs)
  | [.tuple xs] => some (.tuple xs)
  | _ => none
theorem cs_tuple {K : Frag} : CallS K (fun xs H Q => ∃ p ys, xs = [.ref p] ∧ ((SqL K H p ys ∧ ∀ l, H l = none → Q (.ref l) (upd H l (.tup ys))) ∨ (SqT K H p ys ∧ Q (.ref p) H))) bTuple := fun Hs H vs ds c Q ex t hg k => by
  cases t with
  | nil => simp [bTuple] at hg
  | cons r t =>
    cases t with
    | cons _ _ => cases r <;> simp [bTuple] at hg
    | nil =>
      cases r with
      | lst h t =>
        obtain rfl := Option.some.inj hg
        exact ⟨_, _, rfl, .inl ⟨sqL_ex ex h, fun p hp => k _ _ _ (Gr.new ex hp) (.tup (StT.of upd_same) (t.ex (Gr.new ex hp).s))⟩⟩
      | tup h t =>
        obtain rfl := Option.some.inj hg
        exact ⟨_, _, rfl, .inr ⟨sqT_ex ex h, k _ Hs H (.refl ex) (.tup h t)⟩⟩
      | _ => simp [bTuple] at hg
def bList : List D → Option D
  | [.list xs] => some (.list xs)
  | [.tuple xs] => some (.list xs)
  | _ => none
/-- the truths of a list -/
def toBs : List D → Option (List Bool)
  | [] => some []
  | .bool b :: r => (toBs r).map (b :: ·)
  | _ :: _ => none
theorem toBs_eq : ∀ {ds : List D} {bs : List Bool}, toBs ds = some bs → ds = bs.map PyData.bool
  | [], bs, h => by obtain rfl := Option.some.inj h; rfl
  | d :: r, bs, h => by
    cases d with
    | bool b =>
      unfold toBs at h
      cases z : toBs r with
      | none => rw [z] at h; simp at h
      | some cs =>
        rw [z] at h
        have e : b :: cs = bs := by simpa using h
        subst e
        rw [List.map_cons, toBs_eq z]
    | _ => simp [toBs] at h
def bBools (f : List Bool → Bool) : List D → Option D
  | [.list xs] => (toBs xs).map fun bs => .bool (f bs)
  | _ => none
theorem cs_bools {K : Frag} {f : List Bool → Bool} : CallS K (fun vs H Q => ∃ (a : Addr) (bs : List Bool), vs = [V.ref a] ∧ SqL K H a (bs.map V.bl) ∧ Q (.bl (f bs)) H) (bBools f) := fun Hs H vs ds c Q ex t hg k => by
  cases t with
  | nil => simp [bBools] at hg
  | cons r t =>
    cases t with
    | cons _ _ => cases r <;> simp [bBools] at hg
    | nil =>
      cases r with
      | lst h t =>
        simp only [bBools, Option.map_eq_some_iff] at hg
        obtain ⟨bs, h1, h2⟩ := hg
        subst h2
        have e := toBs_eq h1
        subst e
        have e2 := t.bls
        subst e2
        exact ⟨_, bs, rfl, sqL_ex ex h, k _ Hs H (.refl ex) (.bl _)⟩
      | _ => simp [bBools] at hg
def toSs : List D → Option (List Str)
  | [] => some []
  | .str b :: r => (toSs r).map (b :: ·)
  | _ :: _ => none
theorem toSs_eq : ∀ {ds : List D} {bs : List Str}, toSs ds = some bs → ds = bs.map PyData.str
  | [], bs, h => by obtain rfl := Option.some.inj h; rfl
  | d :: r, bs, h => by
    cases d with
    | str b =>
      unfold toSs at h
      cases z : toSs r with
      | none => rw [z] at h; simp at h
      | some cs =>
        rw [z] at h
        have e : b :: cs = bs := by simpa using h
        subst e
        rw [List.map_cons, toSs_eq z]
    | _ => simp [toSs] at h
def tyD : D → String
  | .none => "NoneType"
  | .bool _ => "bool"
  | .int _ => "int"
  | .str _ => "str"
  | .list _ => "list"
  | .tuple _ => "tuple"
  | .dict _ => "dict"
theorem ty_of {K : Frag} {Hs H : Hp} {v : V} {d : D} (ex : Ex Hs H) (r : Rp K Hs v d) : TyX K H v (.type (tyD d)) := by
  cases r with
  | non => exact .base .non
  | bl b => exact .base (.bl b)
  | int i => exact .base (.int i)
  | str x => exact .base (.str x)
  | lst h t =>
    rcases sqL_ex ex h with (h | ⟨o, h⟩) | ⟨o, its, n, h1, h2, _⟩
    · exact .base (.lst h)
    · exact .base (.frz h)
    · exact .kList h1 h2
  | tup h t =>
    rcases sqT_ex ex h with (h | ⟨o, h⟩) | ⟨o, its, n, h1, h2, _⟩
    · exact .base (.tup h)
    · exact .fTuple h
    · exact .kTuple h1 h2
def mIsi (T : String) (m : M D) : M D := mBind m fun d => mOpt ((kitB (tyD d) T).map PyData.bool)
theorem je_isi {T : Str} {T' : String} {p p' : Pos} (h : PE X e (tOf X.K E ps m)) (hg : Gl X "isinstance") (hm : X.mg "isinstance" = none) (hgT : Gl X T) (hmT : X.mg T = none) (hvT : bootBuiltins T = some (.type T')) (hnT : T ≠ "__name__" := by decide) (hdT : (T == ("__debug__" : Str)) = false := by decide)
    (he : starEach (e :: [.Name T p']) X.env = (false, eval e X.env) :: starEach [.Name T p'] X.env := by rfl) (he2 : starEach [.Name T p'] X.env = (false, eval (.Name T p') X.env) :: starEach [] X.env := by rfl) (hpl : (backTo pos (starEach [.Name T p'] X.env)).any (·.1) = false := by rfl) :
    PE X (.Call (.Name "isinstance" p) [e, .Name T p'] [] pos) (tOf X.K E ps (mIsi T' m)) :=
  pe_imp (pe_callB call_isi hg hm (by decide +kernel) (pa_cons h (pa_cons (pe_bltn (v := .ty T') hgT hmT hvT rfl hnT hdT) pa_nil he2) he) (by decide) (by decide) he hpl) fun σ H Q ⟨W, Hs, δ, hp, re, po⟩ => by
    refine tOf.step hp re po fun v d Hs1 H1 δ1 e1 re1 r1 po1 => ?_
    obtain ⟨c, hc, po2⟩ := Post.opt po1
    obtain ⟨b, hb, hc⟩ := Option.map_eq_some_iff.mp hc
    subst hc
    exact ⟨v, .ty T', _, _, b, rfl, .ty T', ty_of re1.ex r1, kit_ty hb, Post.of po2 re1 _ (.bl b)⟩
def MtS (K : Frag) (r : V → List V → Hp → VK → Prop) (g : Str → List D → Option D) : Prop := ∀ Hs H z vs ds c (Q : VK), Ex Hs H → Rps K Hs vs ds → g z ds = some c → (∀ v Hs' H', Gr Hs H Hs' H' → Rp K Hs' v c → Q v H') → r (.str z) vs H Q
def toS : D → Option Str
  | .str z => some z
  | _ => none
def mM1 (g : Str → List D → Option D) (mo m : M D) : M D := mBind mo fun d => mBind (mOpt (toS d)) fun z => mBind m fun e => mOpt (g z [e])
theorem optB {K : Frag} {W : Wd} {Hs : Hp} {σ : L2.St} {δ : Env} {α β : Type} {oa : Option α} {f : α → M β} {QQ : β → Hp → Hp → Env → Prop} (po : Post K E W Hs σ (mBind (mOpt oa) f δ) QQ) : ∃ a, oa = some a ∧ Post K E W Hs σ (f a δ) QQ := by
  cases oa with
  | none => exact po.elim
  | some a => exact ⟨a, rfl, po⟩
theorem je_m1 {id : String} {name : Str} {apos pos : Pos} {r : V → List V → Hp → VK → Prop} {g : Str → List D → Option D} (slot : Slot "str" name id) (ty : typeOf (.builtin id) = pure (.type "method_descriptor")) (rule : MtR X id r) (hr : MtS X.K r g) (ho : PE X o (tOf X.K E ps ma)) (he : PE X e (tOf X.K E ps m))
    (hs : starEach [e] X.env = [(false, eval e X.env)] := by rfl) (hbase : attributeBase o name X.env (eval o X.env) = eval o X.env := by rfl) (hline : (apos.endLine == pos.line) = true := by rfl) : PE X (.Call (.Attribute o name apos) [e] [] pos) (tOf X.K E ps (mM1 g ma m)) :=
  pe_imp (pe_m1 slot ty rule ho he hs hbase hline) fun σ H Q ⟨W, Hs, δ, hp, re, po⟩ => by
    refine tOf.step hp re po fun v d Hs1 H1 δ1 e1 re1 r1 po1 => ?_
    obtain ⟨z, hz, po2⟩ := optB po1
    cases r1 <;> simp [toS] at hz
    subst hz
    refine ⟨⟨_, rfl⟩, tOf.step hp re1 po2 fun w c Hs2 H2 δ2 e2 re2 r2 po3 => ?_⟩
    obtain ⟨c', hc, po4⟩ := Post.opt po3
    exact hr Hs2 H2 _ _ _ c' Q re2.ex (.cons r2 .nil) hc fun v Hs' H' g rv => Post.grow po4 re2 g v rv
def sSplit (z : Str) : List D → Option D
  | [.str b] => if (b.length == 0) = false ∧ z.length + 2 ≤ sizeLine then some (.list ((Txt.split z b).map PyData.str)) else none
  | _ => none
theorem ms_split {K : Frag} : MtS K (fun x xs H Q => ∃ a b, x = .str a ∧ xs = [.str b] ∧ (b.length == 0) = false ∧ a.length + 2 ≤ sizeLine ∧ rNewStrs (Txt.split a b) H Q) sSplit := fun Hs H z vs ds c Q ex t hg k => by
  cases t with
  | nil => simp [sSplit] at hg
  | cons r t =>
    cases t with
    | cons _ _ => cases r <;> simp [sSplit] at hg
    | nil =>
      cases r with
      | str b =>
        simp only [sSplit, Option.ite_none_right_eq_some, Option.some.injEq] at hg
        obtain ⟨⟨h1, h2⟩, hg⟩ := hg
        subst hg
        exact ⟨z, b, rfl, rfl, h1, h2, fun p hp => k _ _ _ (Gr.new ex hp) (.lst (SqL.of upd_same) (Rps.of_strs _))⟩
      | _ => simp [sSplit] at hg
def joinN (z : Str) (ys : List Str) : Nat := (ys.map (·.length)).sum + ys.length * z.length
def sJoin (z : Str) : List D → Option D
  | [.list xs] => (toSs xs).bind fun ys => if joinN z ys ≤ 16777216 then some (.str (Txt.join z ys)) else none
  | [.tuple xs] => (toSs xs).bind fun ys => if joinN z ys ≤ 16777216 then some (.str (Txt.join z ys)) else none
  | _ => none
theorem ms_join {K : Frag} : MtS K (fun x xs H Q => ∃ a p, ∃ ys : List Str, x = .str a ∧ xs = [.ref p] ∧ (SqL K H p (ys.map V.str) ∨ SqT K H p (ys.map V.str)) ∧ (ys.map (·.length)).sum + ys.length * a.length ≤ 16777216 ∧ Q (.str (Txt.join a ys)) H) sJoin := fun Hs H z vs ds c Q ex t hg k => by
  cases t with
  | nil => simp [sJoin] at hg
  | cons r t =>
    cases t with
    | cons _ _ => cases r <;> simp [sJoin] at hg
    | nil =>
      have fin : ∀ {xs : List D}, ((toSs xs).bind fun ys => if joinN z ys ≤ 16777216 then some (.str (Txt.join z ys)) else none) = some c → ∃ ys, xs = ys.map PyData.str ∧ (ys.map (·.length)).sum + ys.length * z.length ≤ 16777216 ∧ c = .str (Txt.join z ys) := fun {xs} h => by
        obtain ⟨ys, h1, h2⟩ := Option.bind_eq_some_iff.mp h
        simp only [Option.ite_none_right_eq_some, Option.some.injEq] at h2
        exact ⟨ys, toSs_eq h1, h2.1, h2.2.symm⟩
      cases r with
      | lst h t =>
        obtain ⟨ys, e1, e2, e3⟩ := fin hg
        subst e1; subst e3
        have e4 := t.strs
        subst e4
        exact ⟨z, _, ys, rfl, rfl, .inl (sqL_ex ex h), e2, k _ Hs H (.refl ex) (.str _)⟩
      | tup h t =>
        obtain ⟨ys, e1, e2, e3⟩ := fin hg
        subst e1; subst e3
        have e4 := t.strs
        subst e4
        exact ⟨z, _, ys, rfl, rfl, .inr (sqT_ex ex h), e2, k _ Hs H (.refl ex) (.str _)⟩
      | _ => simp [sJoin] at hg
def mShs (as : List AM) : M (List D) := mBind (evA as) fun gs => mOpt ((shs gs).filter fun ds => decide (ds.length ≤ sizeLine))
def mTup (as : List AM) : M D := mBind (mShs as) fun ds => mPure (.tuple ds)
def mLst (as : List AM) : M D := mBind (mShs as) fun ds => mPure (.list ds)
theorem mShs_step {W : Wd} {Hs H : Hp} {σ : L2.St} {δ : Env} {β : Type} {f : List D → M β} {QQ : β → Hp → Hp → Env → Prop} {K : Frag} {R : List V → Hp → Prop} (hp : W.pn.map (·.1) = ps) (re : RE K W Hs H σ δ) (po : Post K E W Hs σ (mBind (mShs as) f δ) QQ)
    (k : ∀ vs ds Hs1 H1 δ1, Ex Hs Hs1 → RE K W Hs1 H1 σ δ1 → Rps K Hs1 vs ds → vs.length ≤ sizeLine → Post K E W Hs1 σ (f ds δ1) QQ → R vs H1) : tOfA K E ps (evA as) σ H R := by
  have po' : Post K E W Hs σ (mBind (evA as) (fun gs => mBind (mOpt ((shs gs).filter fun ds => decide (ds.length ≤ sizeLine))) f) δ) QQ := by
    have e : mBind (mShs as) f δ = mBind (evA as) (fun gs => mBind (mOpt ((shs gs).filter fun ds => decide (ds.length ≤ sizeLine))) f) δ := by
      unfold mShs mBind
      cases evA as δ <;> rfl
    rw [← e]; exact po
  refine tOfA.step hp re po' fun vs gs Hs1 H1 δ1 e1 re1 r1 po1 => ?_
  obtain ⟨ds, hc, po2⟩ := optB po1
  obtain ⟨h1, h2⟩ := Option.filter_eq_some_iff.mp hc
  have t := shs_rps r1 h1
  exact k vs ds Hs1 H1 δ1 e1 re1 t (by rw [t.length]; exact of_decide_eq_true h2) po2
theorem je_tup {x1} (h : PA X es (tOfA X.K E ps (evA as))) : PE X (.Tuple es x1 pos) (tOf X.K E ps (mTup as)) :=
  pe_imp (pe_tup h) fun σ H Q ⟨W, Hs, δ, hp, re, po⟩ => mShs_step hp re po fun vs ds Hs1 H1 δ1 e1 re1 t hl po1 => ⟨hl, fun p hpn =>
    Post.grow po1 re1 (Gr.new re1.ex hpn) _ (.tup (StT.of upd_same) (t.ex (Gr.new re1.ex hpn).s))⟩
theorem je_lst (h : PA X es (tOfA X.K E ps (evA as))) : PE X (.List es pos) (tOf X.K E ps (mLst as)) :=
  pe_imp (pe_lst h) fun σ H Q ⟨W, Hs, δ, hp, re, po⟩ => mShs_step hp re po fun vs ds Hs1 H1 δ1 e1 re1 t hl po1 => ⟨hl, fun p hpn =>
    Post.grow po1 re1 (Gr.new re1.ex hpn) _ (.lst (SqL.of upd_same) (t.ex (Gr.new re1.ex hpn).s))⟩
theorem jo_lst (h : PA X es (tOfA X.K E ps (evA as))) : PE X (.List es pos) (tOfO X.K E ps (mShs as)) :=
  pe_imp (pe_lst h) fun σ H Q ⟨W, Hs, δ, hp, re, po⟩ => by
    have po' : Post X.K E W Hs σ (mBind (mShs as) mPure δ) fun xs Hs' H' δ' => ∀ a, FrO X.K W Hs' H' σ δ' a xs → Q (.ref a) H' := by
      have e : mBind (mShs as) mPure δ = mShs as δ := by unfold mBind mPure; cases mShs as δ <;> rfl
      rw [e]; exact po
    refine mShs_step hp re po' fun vs ds Hs1 H1 δ1 e1 re1 t hl po1 => ⟨hl, fun p hpn => ?_⟩
    have en : Ex H1 (upd H1 p (.lst vs)) := ex_new hpn
    refine Post.of po1 (re1.newH en) p ⟨⟨vs, upd_same, t⟩, ex_none re1.ex hpn, ?_, fun i s q w z => ?_⟩
    · cases q : W.G p with
      | none => rfl
      | some u => have := (re1.fg p u q).1; rw [hpn] at this; cases this
    · obtain ⟨a, u, h1, h2, _⟩ := re1.ow i s q w
      rw [h1] at z
      cases z
      rw [hpn] at h2; cases h2
end
end Dn
namespace Dn
open PySem PySem.Spec PyProof.Rows L2
inductive Fl where
  | nx
  | rt (s : Sl)
  | bk
  | ct
def FlOk (K : Frag) (W : Wd) (B : Ends) (fl : Fl) (σ : L2.St) (Hs H : Hp) (δ : Env) : Prop := match fl with
  | .nx => B.nx σ H
  | .bk => B.bk σ H
  | .ct => B.ct σ H
  | .rt (.sh d) => ∀ v, Rp K Hs v d → B.rt v H
  | .rt (.ow xs) => ∀ a, FrO K W Hs H σ δ a xs → B.rt (.ref a) H
  | .rt .no => False
def PostS (K : Frag) (E : XQ) (W : Wd) (Hs : Hp) (r : Res Fl) (B : Ends) (b : Wd → Fl → L2.St → Hp → Hp → Env → Prop) : Prop := match r with
  | .ok fl δ' => ∀ σ' Hs' H', Ex Hs Hs' → RE K W Hs' H' σ' δ' → b W fl σ' Hs' H' δ'
  | .exc x δ' => ∀ σ' Hs' H', Ex Hs Hs' → RE K W Hs' H' σ' δ' → E x σ' H'
  | .bad => False
abbrev PostF (K : Frag) (E : XQ) (W : Wd) (Hs : Hp) (r : Res Fl) (B : Ends) : Prop := PostS K E W Hs r B fun W fl σ' Hs' H' δ' => FlOk K W B fl σ' Hs' H' δ'
theorem PostS.ex {K : Frag} {E : XQ} {W : Wd} {Hs Hs1 : Hp} {r : Res Fl} {B : Ends} {b : Wd → Fl → L2.St → Hp → Hp → Env → Prop} (h : PostS K E W Hs r B b) (e : Ex Hs Hs1) : PostS K E W Hs1 r B b := by
  cases r with
  | ok a δ' => exact fun σ' Hs' H' e' r => h σ' Hs' H' (e.trans e') r
  | exc x δ' => exact fun σ' Hs' H' e' r => h σ' Hs' H' (e.trans e') r
  | bad => exact h
def tOfS (K : Frag) (E : XQ) (ps : List Nat) (m : M Fl) : TS := fun B σ H => ∃ (W : Wd) (Hs : Hp) (δ : Env), W.pn.map (·.1) = ps ∧ RE K W Hs H σ δ ∧ PostF K E W Hs (m δ) B
section
variable {K : Frag} {E : XQ} {ps : List Nat} {W : Wd} {Hs H : Hp} {σ : L2.St} {δ : Env} {B : Ends}
theorem Cf.stepS {α : Type} {ma : M α} {f : α → M Fl} {R : Wd → α → Hp → Hp → Env → Prop} (hp : W.pn.map (·.1) = ps) (re : RE K W Hs H σ δ) (po : PostF K E W Hs (mBind ma f δ) B)
    (k : ∀ a Hs1 H1 δ1, Ex Hs Hs1 → RE K W Hs1 H1 σ δ1 → PostF K E W Hs1 (f a δ1) B → R W a Hs1 H1 δ1) : Cf K E ps ma σ H R := by
  refine ⟨W, Hs, δ, hp, re, ?_⟩
  unfold mBind at po
  cases h : ma δ with
  | ok a δ1 =>
    rw [h] at po
    exact fun Hs' H' e r => k a Hs' H' δ1 e r (PostS.ex po e)
  | exc x δ1 =>
    rw [h] at po
    exact fun Hs' H' e r => po σ Hs' H' e r
  | bad =>
    rw [h] at po
    exact po
theorem tOf.stepS {ma : M D} {f : D → M Fl} {R : V → Hp → Prop} (hp : W.pn.map (·.1) = ps) (re : RE K W Hs H σ δ) (po : PostF K E W Hs (mBind ma f δ) B)
    (k : ∀ v d Hs1 H1 δ1, Ex Hs Hs1 → RE K W Hs1 H1 σ δ1 → Rp K Hs1 v d → PostF K E W Hs1 (f d δ1) B → R v H1) : tOf K E ps ma σ H R :=
  Cf.stepS hp re po fun d Hs1 H1 δ1 e r p v rv => k v d Hs1 H1 δ1 e r rv p
theorem tOfO.stepS {ma : M (List D)} {f : List D → M Fl} {R : V → Hp → Prop} (hp : W.pn.map (·.1) = ps) (re : RE K W Hs H σ δ) (po : PostF K E W Hs (mBind ma f δ) B)
    (k : ∀ a xs Hs1 H1 δ1, Ex Hs Hs1 → RE K W Hs1 H1 σ δ1 → FrO K W Hs1 H1 σ δ1 a xs → PostF K E W Hs1 (f xs δ1) B → R (.ref a) H1) : tOfO K E ps ma σ H R :=
  Cf.stepS hp re po fun xs Hs1 H1 δ1 e r p a fa => k a xs Hs1 H1 δ1 e r fa p
theorem PostS.of {fl : Fl} {b : Wd → Fl → L2.St → Hp → Hp → Env → Prop} (po : PostS K E W Hs (.ok fl δ) B b) (re : RE K W Hs H σ δ) : b W fl σ Hs H δ := po σ Hs H (Ex.refl _) re
theorem optF {α : Type} {oa : Option α} {f : α → M Fl} (po : PostF K E W Hs (mBind (mOpt oa) f δ) B) : ∃ a, oa = some a ∧ PostF K E W Hs (f a δ) B := by
  cases oa with
  | none => exact po.elim
  | some a => exact ⟨a, rfl, po⟩
theorem mOwn_postF {i : Nat} {f : List D → M Fl} (po : PostF K E W Hs (mBind (mOwn i) f δ) B) : ∃ xs, δ[i]? = some (Sl.ow xs) ∧ PostF K E W Hs (f xs δ) B := by
  unfold mBind mOwn at po
  split at po
  · rename_i a e' h
    split at h
    · rename_i xs hx
      cases h
      exact ⟨_, hx, po⟩
    · cases h
  · rename_i x e' h
    split at h <;> cases h
  · exact po.elim
end
section
variable {X : Cx} {E : XQ} {ps : List Nat} {a b e : Expr} {st : Stmt} {rest : List Stmt} {pos : Pos} {m : M D} {mo : M (List D)} {m1 m2 : M Fl}
def mSeq (m1 m2 : M Fl) : M Fl := fun δ => match m1 δ with
  | .ok .nx δ' => m2 δ'
  | r => r
def mNx : M Fl := mPure .nx
theorem jss_nil : PSs X [] (tOfS X.K E ps mNx) := pss_imp pss_nil fun B σ H ⟨W, Hs, δ, hp, re, po⟩ => PostS.of po re
theorem jss_one (h : PS X st (tOfS X.K E ps m1)) : PSs X [st] (tOfS X.K E ps m1) := pss_one h
theorem jss_cons (h : PS X st (tOfS X.K E ps m1)) (t : PSs X rest (tOfS X.K E ps m2)) : PSs X (st :: rest) (tOfS X.K E ps (mSeq m1 m2)) :=
  pss_imp (pss_cons h t) fun B σ H ⟨W, Hs, δ, hp, re, po⟩ => by
    refine ⟨W, Hs, δ, hp, re, ?_⟩
    unfold mSeq at po
    cases q : m1 δ with
    | ok fl δ1 =>
      rw [q] at po
      cases fl with
      | nx => exact fun σ' Hs' H' e r => ⟨W, Hs', δ1, hp, r, PostS.ex po e⟩
      | rt s => cases s <;> exact po
      | bk => exact po
      | ct => exact po
    | exc x δ1 =>
      rw [q] at po
      exact po
    | bad =>
      rw [q] at po
      exact po
def mExpr (m : M D) : M Fl := mBind m fun _ => mNx
theorem js_expr (h : PE X e (tOf X.K E ps m)) (hs : swapsWith e none pos.line X.env = pure false := by rfl) : PS X (.Expr e pos) (tOfS X.K E ps (mExpr m)) :=
  pst_imp (ps_expr h hs) fun B σ H ⟨W, Hs, δ, hp, re, po⟩ => tOf.stepS hp re po fun v d Hs1 H1 δ1 e1 re1 r1 po1 => PostS.of po1 re1
def mRet (m : M D) : M Fl := mBind m fun d => mPure (.rt (.sh d))
theorem js_ret (h : PE X e (tOf X.K E ps m)) : PS X (.Return (some e) pos) (tOfS X.K E ps (mRet m)) :=
  pst_imp (ps_ret h) fun B σ H ⟨W, Hs, δ, hp, re, po⟩ => tOf.stepS hp re po fun v d Hs1 H1 δ1 e1 re1 r1 po1 => PostS.of po1 re1 v r1
def mIfS (t : M Bool) (m1 m2 : M Fl) : M Fl := mBind t fun b => if b then m1 else m2
theorem js_if {c : Expr} {sa sb : List Stmt} {t : M Bool} (hc : PT X c (tOfT X.K E ps t)) (h1 : PSs X sa (tOfS X.K E ps m1)) (h2 : PSs X sb (tOfS X.K E ps m2)) : PS X (.If c sa sb pos) (tOfS X.K E ps (mIfS t m1 m2)) :=
  pst_imp (ps_if hc h1 h2) fun B σ H ⟨W, Hs, δ, hp, re, po⟩ => Cf.stepS hp re po fun b Hs1 H1 δ1 e1 re1 po1 => by
    cases b with
    | true => exact ⟨W, Hs1, δ1, hp, re1, po1⟩
    | false => exact ⟨W, Hs1, δ1, hp, re1, po1⟩
/-- x = e -/
def mSet (i : Nat) (m : M D) : M Fl := mBind m fun d => fun δ => .ok .nx (δ.set i (.sh d))
theorem js_set {i : Nat} {x : Str} {pos' : Pos} (hps : i ∉ ps) (hN : X.N.Nodup) (hi : X.N[i]? = some x) (hx : Loc X.env.scope x) (h : PE X e (tOf X.K E ps m)) (hs : swapsWith e (some (.Name x pos')) pos.line X.env = pure false := by rfl) (hf : X.fn x = true ∨ X.env.scope.names.lookup x = some .local := by first | exact .inl rfl | exact .inr rfl | assumption) :
    PS X (.Assign [.Name x pos'] e pos) (tOfS X.K E ps (mSet i m)) :=
  pst_imp (ps_set hN hi hx h hs hf) fun B σ H ⟨W, Hs, δ, hp, re, po⟩ => tOf.stepS hp re po fun v d Hs1 H1 δ1 e1 re1 r1 po1 => PostS.of po1 (re1.setSh r1 (by rw [hp]; exact hps))
/-- x[i] = e, x a list of one's own -/
def mSetIx (k : Nat) (mi me : M D) : M Fl := mBind me fun d => mBind (mOwn k) fun _ => mBind mi fun e => mBind (mOwn k) fun xs => mBind (mOpt (toI e)) fun n => mBind (mOpt (n.bind fun n => ixN xs.length n)) fun j => fun δ => .ok .nx (δ.set k (.ow (xs.set j d)))
theorem js_setIx {k : Nat} {x : Str} {p p' : Pos} {i v : Expr} {mi me : M D} (hN : X.N[k]? = some x) (hv : Vis X.env.scope x) (he : PE X v (tOf X.K E ps me)) (hi : PE X i (tOf X.K E ps mi)) (hd : (x == ("__debug__" : Str)) = false := by decide) (hcd : (x == ("__classdict__" : Str)) = false := by decide)
    (ha : ∀ v, assign (.Subscript (.Name x p) i p') X.env v = (do
      let ov ← holding [v] (eval (.Name x p) X.env)
      let iv ← holding [v, ov] (eval i X.env)
      standAt p'
      holding [v, ov, iv] (setItem ov iv v)
      release [v, ov, iv] []) := by intro _; rfl)
    (hs : swapsWithSole [.Subscript (.Name x p) i p'] v pos.line X.env = pure false := by rfl) (hw : swappedStores [.Subscript (.Name x p) i p'] v X.env = pure none := by rfl)
    (h1 : (assignEach [.Subscript (.Name x p) i p'] X.env).map (·.2) = [assign (.Subscript (.Name x p) i p') X.env] := by rfl) : PS X (.Assign [.Subscript (.Name x p) i p'] v pos) (tOfS X.K E ps (mSetIx k mi me)) :=
  pst_imp (ps_asg he (pg_sub (pe_var hN hv hd hcd) hi set_list ha) hs hw h1) fun B σ H ⟨W, Hs, δ, hp, re, po⟩ => by
    refine tOf.stepS hp re po fun w d Hs1 H1 δ1 e1 re1 r1 po1 => ?_
    obtain ⟨xs, hx, po2⟩ := mOwn_postF po1
    obtain ⟨q, Hb, g1, _⟩ := lent re1 hx
    refine ⟨_, g1, tOf.stepS hp re1 po2 fun u c Hs2 H2 δ2 e2 re2 r2 po3 => ?_⟩
    obtain ⟨xs', hx', po4⟩ := mOwn_postF po3
    obtain ⟨q', Hb', g1', _, _, _, _, _, vs, g7, g8⟩ := lent re2 hx'
    have eq : q' = q := by rw [g1] at g1'; cases g1'; rfl
    subst eq
    obtain ⟨n, hn, po5⟩ := optF po4
    obtain ⟨j, hj, po6⟩ := optF po5
    cases r2 <;> simp [toI] at hn
    subst hn
    simp only [Option.bind_some] at hj
    refine ⟨q', vs, _, j, rfl, rfl, g7, by rw [g8.length]; exact hj, ?_⟩
    exact PostS.of po6 (re2.write hx' rfl g1 (s := .ow (xs'.set j d)) rfl (Rps.set (r1.ex e2) j g8))
/-- x.append(e) -/
def mApp (k : Nat) (me : M D) : M Fl := mBind (mOwn k) fun _ => mBind me fun d => mBind (mOwn k) fun xs => mBind (mOpt (if xs.length < sizeLine then some () else none)) fun _ => fun δ => .ok .nx (δ.set k (.ow (xs ++ [d])))
theorem js_app {k : Nat} {x : Str} {p apos cpos : Pos} {v : Expr} {me : M D} (hN : X.N[k]? = some x) (hv : Vis X.env.scope x) (he : PE X v (tOf X.K E ps me)) (hd : (x == ("__debug__" : Str)) = false := by decide) (hcd : (x == ("__classdict__" : Str)) = false := by decide)
    {PE0 : PE X (.Call (.Attribute (.Name x p) "append" apos) [v] [] cpos) (tBM X.K "list" rAppend (tVar k) (tCons (tOf X.K E ps me) tNil))}
    (hs : swapsWith (.Call (.Attribute (.Name x p) "append" apos) [v] [] cpos) none pos.line X.env = pure false := by rfl) : PS X (.Expr (.Call (.Attribute (.Name x p) "append" apos) [v] [] cpos) pos) (tOfS X.K E ps (mApp k me)) :=
  pst_imp (ps_expr PE0 hs) fun B σ H ⟨W, Hs, δ, hp, re, po⟩ => by
    obtain ⟨xs, hx, po1⟩ := mOwn_postF po
    obtain ⟨q, Hb, g1, _, _, _, _, g6, _⟩ := lent re hx
    refine ⟨_, g1, g6, tOf.stepS hp re po1 fun w d Hs1 H1 δ1 e1 re1 r1 po2 => ?_⟩
    obtain ⟨xs', hx', po3⟩ := mOwn_postF po2
    obtain ⟨q', Hb', g1', _, _, _, _, _, vs, g7, g8⟩ := lent re1 hx'
    have eq : q' = q := by rw [g1] at g1'; cases g1'; rfl
    subst eq
    obtain ⟨_, hl, po4⟩ := optF po3
    have hlt : xs'.length < sizeLine := by
      by_cases h : xs'.length < sizeLine
      · exact h
      · rw [if_neg h] at hl; cases hl
    refine ⟨q', vs, w, rfl, rfl, g7, by rw [g8.length]; exact hlt, ?_⟩
    exact PostS.of po4 (re1.write hx' rfl g1 (s := .ow (xs' ++ [d])) rfl (g8.snoc r1))
def PostG (r : Res Unit) (Q : Env → Prop) : Prop := match r with
  | .ok _ δ' => Q δ'
  | _ => False
def rBind (r : Res Unit) (f : Env → Res Unit) : Res Unit := match r with
  | .ok _ δ' => f δ'
  | _ => .bad
theorem PostG.bind {r : Res Unit} {f : Env → Res Unit} {Q : Env → Prop} (h : PostG (rBind r f) Q) : PostG r fun δ' => PostG (f δ') Q := by
  cases r with
  | ok a δ => exact h
  | exc x δ => exact h
  | bad => exact h
theorem PostG.imp {r : Res Unit} {Q Q' : Env → Prop} (h : PostG r Q) (k : ∀ δ, Q δ → Q' δ) : PostG r Q' := by
  cases r with
  | ok a δ => exact k δ h
  | exc x δ => exact h
  | bad => exact h
/-- the same but for some slots -/
def Off (gv : List Nat) (σ σ' : L2.St) : Prop := σ'.length = σ.length ∧ ∀ j, j ∉ gv → σ'[j]? = σ[j]?
theorem Off.refl {gv : List Nat} {σ : L2.St} : Off gv σ σ := ⟨rfl, fun _ _ => rfl⟩
theorem Off.trans {gv gw : List Nat} {σ σ1 σ2 : L2.St} (a : Off gv σ σ1) (b : Off gw σ1 σ2) : Off (gv ++ gw) σ σ2 := ⟨b.1.trans a.1, fun j h => by
  rw [List.mem_append, not_or] at h
  rw [b.2 j h.2, a.2 j h.1]⟩
def gOf (K : Frag) (E : XQ) (ps gv : List Nat) (mg : D → M Unit) : TG := fun v σ H Q => ∃ (W : Wd) (Hs : Hp) (δ : Env) (d : D), W.pn.map (·.1) = ps ∧ RE K W Hs H σ δ ∧ Rp K Hs v d ∧
  PostG (mg d δ) fun δ' => ∀ σ' Hs' H', Ex Hs Hs' → RE K W Hs' H' σ' δ' → Off gv σ σ' → Q σ' H'
def gOfs (K : Frag) (E : XQ) (ps gv : List Nat) (mg : List D → M Unit) : TGs := fun vs σ H Q => ∃ (W : Wd) (Hs : Hp) (δ : Env) (ds : List D), W.pn.map (·.1) = ps ∧ RE K W Hs H σ δ ∧ Rps K Hs vs ds ∧
  PostG (mg ds δ) fun δ' => ∀ σ' Hs' H', Ex Hs Hs' → RE K W Hs' H' σ' δ' → Off gv σ σ' → Q σ' H'
theorem pg_imp {tg : Expr} {t t' : TG} (h : PG X tg t) (k : ∀ v σ H Q, t' v σ H Q → t v σ H Q) : PG X tg t' := ⟨fun pins s σ H v u Q I r q => h.run pins s σ H v u Q I r (k v σ H Q q)⟩
theorem pgs_imp {tg : List Expr} {t t' : TGs} (h : PGs X tg t) (k : ∀ v σ H Q, t' v σ H Q → t v σ H Q) : PGs X tg t' := ⟨fun pins s σ H v u Q I r q => h.run pins s σ H v u Q I r (k v σ H Q q)⟩
def mgName (i : Nat) : D → M Unit := fun d δ => .ok () (δ.set i (.sh d))
theorem jg_name {i : Nat} {x : Str} (hps : i ∉ ps) (hN : X.N.Nodup) (hi : X.N[i]? = some x) (hx : Loc X.env.scope x) (hf : X.fn x = true ∨ X.env.scope.names.lookup x = some .local := by first | exact .inl rfl | exact .inr rfl | assumption) : PG X (.Name x pos) (gOf X.K E ps [i] (mgName i)) :=
  pg_imp (pg_name hN hi hx hf) fun v σ H Q ⟨W, Hs, δ, d, hp, re, r, po⟩ => po _ Hs H (Ex.refl _) (re.setSh r (by rw [hp]; exact hps)) ⟨by simp, fun j hj => by rw [List.getElem?_set_ne (fun z => hj (by simp [z]))]⟩
def mgNil : List D → M Unit
  | [] => mPure ()
  | _ :: _ => fun _ => .bad
def mgCons (g : D → M Unit) (gs : List D → M Unit) : List D → M Unit
  | d :: ds => fun δ => rBind (g d δ) (gs ds)
  | [] => fun _ => .bad
theorem jgs_nil : PGs X [] (gOfs X.K E ps [] mgNil) := pgs_imp pgs_nil fun vs σ H Q ⟨W, Hs, δ, ds, hp, re, r, po⟩ => by
  cases r with
  | nil => exact ⟨rfl, po σ Hs H (Ex.refl _) re Off.refl⟩
  | cons _ _ => exact po.elim
theorem jgs_cons {t : Expr} {ts : List Expr} {gv gw : List Nat} {g : D → M Unit} {gs : List D → M Unit} (h1 : PG X t (gOf X.K E ps gv g)) (h2 : PGs X ts (gOfs X.K E ps gw gs)) (hs : (assignEach (t :: ts) X.env).map (·.2) = assign t X.env :: (assignEach ts X.env).map (·.2) := by rfl) : PGs X (t :: ts) (gOfs X.K E ps (gv ++ gw) (mgCons g gs)) :=
  pgs_imp (pgs_cons h1 h2 hs) fun vs σ H Q ⟨W, Hs, δ, ds, hp, re, r, po⟩ => by
    cases r with
    | nil => exact po.elim
    | cons r1 rs =>
      refine ⟨_, _, rfl, W, Hs, δ, _, hp, re, r1, (PostG.bind po).imp fun δ1 po1 => ?_⟩
      exact fun σ' Hs' H' e re' of => ⟨W, Hs', δ1, _, hp, re', rs.ex e, po1.imp fun δ2 k σ2 Hs2 H2 e2 r2 of2 => k σ2 Hs2 H2 (e.trans e2) r2 (of.trans of2)⟩
/-- how many names, at any rate -/
def mgLen (n : Nat) (gs : List D → M Unit) : List D → M Unit := fun ds δ => if ds.length = n then gs ds δ else .bad
def mgTup (n : Nat) (gs : List D → M Unit) : D → M Unit
  | .tuple ds => mgLen n gs ds
  | _ => fun _ => .bad
def mgLst (n : Nat) (gs : List D → M Unit) : D → M Unit
  | .list ds => mgLen n gs ds
  | _ => fun _ => .bad
theorem mgLen_post {n : Nat} {gs : List D → M Unit} {ds : List D} {δ : Env} {Q : Env → Prop} (h : PostG (mgLen n gs ds δ) Q) : ds.length = n ∧ PostG (gs ds δ) Q := by
  unfold mgLen at h
  by_cases hl : ds.length = n
  · rw [if_pos hl] at h; exact ⟨hl, h⟩
  · rw [if_neg hl] at h; exact h.elim
theorem jg_tup {ts : List Expr} {k n : Nat} {gv : List Nat} {gs : List D → M Unit} (hc : X.calm = true) (h : PGs X ts (gOfs X.K E ps gv gs)) (hn : (assignEach ts X.env).length = n := by rfl) (hst : (assignEach ts X.env).findIdx? (·.1) = none := by rfl) : PG X (.Tuple ts k pos) (gOf X.K E ps gv (mgTup n gs)) :=
  pg_imp (pg_tup (n := n) hc h hn hst) fun v σ H Q ⟨W, Hs, δ, d, hp, re, r, po⟩ => by
    cases r with
    | tup h1 t =>
      obtain ⟨hl, po1⟩ := mgLen_post po
      exact ⟨_, _, rfl, sqT_ex re.ex h1, by rw [t.length]; exact hl, W, Hs, δ, _, hp, re, t, po1⟩
    | _ => exact po.elim
theorem jg_lst {ts : List Expr} {k n : Nat} {gv : List Nat} {gs : List D → M Unit} (hc : X.calm = true) (h : PGs X ts (gOfs X.K E ps gv gs)) (hn : (assignEach ts X.env).length = n := by rfl) (hst : (assignEach ts X.env).findIdx? (·.1) = none := by rfl) : PG X (.Tuple ts k pos) (gOf X.K E ps gv (mgLst n gs)) :=
  pg_imp (pg_unl (n := n) hc h hn hst) fun v σ H Q ⟨W, Hs, δ, d, hp, re, r, po⟩ => by
    cases r with
    | lst h1 t =>
      obtain ⟨hl, po1⟩ := mgLen_post po
      exact ⟨_, _, rfl, sqL_ex re.ex h1, by rw [t.length]; exact hl, W, Hs, δ, _, hp, re, t, po1⟩
    | _ => exact po.elim
/-- targets = e -/
def mAsg (g : D → M Unit) (m : M D) : M Fl := mBind m fun d δ => match g d δ with
  | .ok _ δ' => .ok .nx δ'
  | _ => .bad
theorem js_asg {tg : Expr} {gv : List Nat} {g : D → M Unit} (h : PE X e (tOf X.K E ps m)) (hg : PG X tg (gOf X.K E ps gv g)) (hs : swapsWithSole [tg] e pos.line X.env = pure false := by rfl) (hw : swappedStores [tg] e X.env = pure none := by rfl)
    (h1 : (assignEach [tg] X.env).map (·.2) = [assign tg X.env] := by rfl) : PS X (.Assign [tg] e pos) (tOfS X.K E ps (mAsg g m)) :=
  pst_imp (ps_asg h hg hs hw h1) fun B σ H ⟨W, Hs, δ, hp, re, po⟩ => tOf.stepS hp re po fun v d Hs1 H1 δ1 e1 re1 r1 po1 => by
    refine ⟨W, Hs1, δ1, d, hp, re1, r1, ?_⟩
    cases q : g d δ1 with
    | ok u δ2 => rw [q] at po1; exact fun σ' Hs' H' e r _ => po1 σ' Hs' H' e r
    | exc x δ2 => rw [q] at po1; exact po1
    | bad => rw [q] at po1; exact po1
end
end Dn
namespace Dn
open PySem PySem.Spec PyProof.Rows L2
def ItOk (K : Frag) (Hs : Hp) (J : It) (ds : List D) : Prop := ∀ Hs1 H1, Ex Hs Hs1 → Ex Hs1 H1 → ∀ i : Nat,
  (∀ d, ds[i]? = some d → J.go i H1 ∧ ∀ x H2, J.yld i H1 x H2 → ∃ Hs2, Gr Hs1 H1 Hs2 H2 ∧ Rp K Hs2 x d) ∧ (ds[i]? = none → J.stop i H1)
def tOfI (K : Frag) (E : XQ) (ps : List Nat) (m : M (List D)) : TI := fun σ H R => Cf K E ps m σ H fun _ ds Hs' H' _ => ∀ J, ItOk K Hs' J ds → R J H'
theorem pi_imp {X : Cx} {tg e : Expr} {t t' : TI} (h : PI X tg e t) (k : ∀ σ H Q, t' σ H Q → t σ H Q) : PI X tg e t' := ⟨fun pins s σ H Q I q => h.run pins s σ H Q I (k σ H Q q)⟩
def sgnD (z : Str) : List D := z.cps.toList.map fun c => .str ⟨#[c]⟩
def dItems : D → Option (List D)
  | .list xs => some xs
  | .tuple xs => some xs
  | .str z => some (sgnD z)
  | _ => none
section
variable {X : Cx} {E : XQ} {ps : List Nat} {tg e : Expr} {pos : Pos} {m : M D}
/-- a list, a tuple, a text -/
def iAnyR (K : Frag) (tl : TE) : TI := fun σ H R => tl σ H fun x H1 => (∃ a, x = .ref a ∧ (∃ xs, SqL K H1 a xs) ∧ R (Itl K a) H1) ∨ (∃ a, x = .ref a ∧ (∃ xs, SqT K H1 a xs) ∧ R (Itt K a) H1) ∨ ∃ z, x = .str z ∧ R (Its z) H1
theorem pi_anyR {tl : TE} (hl : PE X e tl) : PI X tg e (iAnyR X.K tl) := by
  constructor
  intro pins s σ H R I h
  refine thn (hl.run pins s σ H _ I h) ?_
  rintro v s1 ⟨x, H1, I1, r1, q1⟩
  rcases q1 with ⟨a, hx, ⟨xs, hq⟩, q⟩ | ⟨a, hx, ⟨xs, hq⟩, q⟩ | ⟨z, hx, q⟩
  · subst hx
    obtain rfl : v = Value.ref a := r1
    obtain ⟨its, rv, p, hz⟩ := I1.list hq
    exact wpAny_pyIter_list p.isList (pi_one (tk := s1.toks) I1 _ (turn_list a _)
      ⟨_, Heap.get?_push_size _ rfl, rfl, rfl⟩ q)
  · subst hx
    obtain rfl : v = Value.ref a := r1
    obtain ⟨its, rv, p, hz⟩ := I1.tuple hq
    have pt : s1.heap.IsTuple a its.toArray := p
    exact wpAny_pyIter_tuple pt (pi_one (tk := s1.toks) I1 _ (turn_tuple a _)
      ⟨_, Heap.get?_push_size _ rfl, rfl, rfl⟩ q)
  · subst hx
    obtain ⟨t, rfl⟩ := r1
    by_cases ha : z.cps.all (· < 128) = true
    · exact wpAny_pyIter_ascii ha (pi_one (tk := s1.toks) I1 _ (turn_str _ z t _ (.inl rfl))
        ⟨_, Heap.get?_push_size _ rfl, rfl, rfl⟩ q)
    · have ha' : z.cps.all (· < 128) = false := by simpa using ha
      exact wpAny_pyIter_wide ha' (pi_one (tk := s1.toks) I1 _ (turn_str _ z t _ (.inr rfl))
        ⟨_, Heap.get?_push_size _ rfl, rfl, rfl⟩ q)
theorem none_le {α : Type} {l : List α} {i : Nat} (h : l[i]? = none) : l.length ≤ i := List.getElem?_eq_none_iff.mp h
theorem it_list {K : Frag} {Hs : Hp} {a : Addr} {vs : List V} {ds : List D} (h : SqL K Hs a vs) (t : Rps K Hs vs ds) : ItOk K Hs (Itl K a) ds := fun Hs1 H1 e1 e2 i => ⟨fun d hd => by
  obtain ⟨v, h1, h2⟩ := t.get hd
  have hq : SqL K H1 a vs := sqL_ex (e1.trans e2) h
  refine ⟨⟨vs, v, hq, h1⟩, fun x H2 ⟨hH, hx⟩ => ?_⟩
  subst hH
  have := hx vs hq
  rw [h1] at this
  cases this
  exact ⟨Hs1, .refl e2, h2.ex e1⟩, fun hn => ⟨vs, sqL_ex (e1.trans e2) h, by rw [t.length]; exact none_le hn⟩⟩
theorem it_tup {K : Frag} {Hs : Hp} {a : Addr} {vs : List V} {ds : List D} (h : StT K Hs a vs) (t : Rps K Hs vs ds) : ItOk K Hs (Itt K a) ds := fun Hs1 H1 e1 e2 i => ⟨fun d hd => by
  obtain ⟨v, h1, h2⟩ := t.get hd
  have hq : SqT K H1 a vs := sqT_ex (e1.trans e2) h
  refine ⟨⟨vs, v, hq, h1⟩, fun x H2 ⟨hH, hx⟩ => ?_⟩
  subst hH
  have := hx vs hq
  rw [h1] at this
  cases this
  exact ⟨Hs1, .refl e2, h2.ex e1⟩, fun hn => ⟨vs, sqT_ex (e1.trans e2) h, by rw [t.length]; exact none_le hn⟩⟩
theorem it_str {K : Frag} {Hs : Hp} {z : Str} : ItOk K Hs (Its z) (sgnD z) := fun Hs1 H1 e1 e2 i => ⟨fun d hd => by
  unfold sgnD at hd
  rw [List.getElem?_map, Option.map_eq_some_iff] at hd
  obtain ⟨c, hc, hd⟩ := hd
  subst hd
  rw [Array.getElem?_toList] at hc
  refine ⟨(Array.getElem?_eq_some_iff.mp hc).1, fun x H2 ⟨hH, c', hc', hx⟩ => ?_⟩
  subst hH; subst hx
  rw [hc] at hc'
  cases hc'
  exact ⟨Hs1, .refl e2, .str _⟩, fun hn => by
  have := none_le hn
  unfold sgnD at this
  rw [List.length_map, Array.length_toList] at this
  exact this⟩
def mIter (m : M D) : M (List D) := mBind m fun d => mOpt (dItems d)
theorem ji_any (h : PE X e (tOf X.K E ps m)) : PI X tg e (tOfI X.K E ps (mIter m)) :=
  pi_imp (pi_anyR h) fun σ H R ⟨W, Hs, δ, hp, re, po⟩ => tOf.step hp re po fun v d Hs1 H1 δ1 e1 re1 r1 po1 => by
    obtain ⟨ds, hd, po2⟩ := Post.opt po1
    cases r1 with
    | lst h t =>
      obtain rfl := Option.some.inj hd
      exact .inl ⟨_, rfl, ⟨_, sqL_ex re1.ex h⟩, Post.of po2 re1 _ (it_list h t)⟩
    | tup h t =>
      obtain rfl := Option.some.inj hd
      exact .inr (.inl ⟨_, rfl, ⟨_, sqT_ex re1.ex h⟩, Post.of po2 re1 _ (it_tup h t)⟩)
    | str z =>
      obtain rfl := Option.some.inj hd
      exact .inr (.inr ⟨z, rfl, Post.of po2 re1 _ it_str⟩)
    | _ => simp [dItems] at hd
def inLine (i : Int) : Bool := decide (-(2 ^ 62) ≤ i ∧ i < 2 ^ 62)
def rngD (i : Int) (n : Nat) : List D := (List.range n).map fun (k : Nat) => PyData.int (i + (k : Int))
def bRng1 : D → Option (List D)
  | .int j => if inLine j then some (rngD 0 j.toNat) else none
  | _ => none
def bRng2 : D → D → Option (List D)
  | .int i, .int j => if inLine i ∧ inLine j then some (rngD i (j - i).toNat) else none
  | _, _ => none
theorem it_rng {K : Frag} {Hs : Hp} {lo : Int} {n : Nat} : ItOk K Hs (Itr lo n) (rngD lo n) := fun Hs1 H1 e1 e2 i => ⟨fun d hd => by
  unfold rngD at hd
  rw [List.getElem?_map, Option.map_eq_some_iff] at hd
  obtain ⟨c, hc, hd⟩ := hd
  subst hd
  obtain ⟨hi, hc⟩ := List.getElem?_eq_some_iff.mp hc
  rw [List.getElem_range] at hc
  subst hc
  rw [List.length_range] at hi
  refine ⟨hi, fun x H2 ⟨hH, hx⟩ => ?_⟩
  subst hH; subst hx
  exact ⟨Hs1, .refl e2, .int _⟩, fun hn => by
  have := none_le hn
  unfold rngD at this
  rw [List.length_map, List.length_range] at this
  exact this⟩
def mRng1 (m : M D) : M (List D) := mBind m fun d => mOpt (bRng1 d)
def mRng2 (ma mb : M D) : M (List D) := mBind ma fun d => mBind mb fun e => mOpt (bRng2 d e)
theorem ji_range1 {a : Expr} {p : Pos} {ma : M D} (hg : Gl X "range") (hm : X.mg "range" = none) (ha : PE X a (tOf X.K E ps ma)) (hs : starEach [a] X.env = [(false, eval a X.env)] := by rfl) : PI X tg (.Call (.Name "range" p) [a] [] pos) (tOfI X.K E ps (mRng1 ma)) :=
  pi_imp (pi_range1 hg hm (pa_cons ha pa_nil hs) hs) fun σ H R ⟨W, Hs, δ, hp, re, po⟩ => tOf.step hp re po fun v d Hs1 H1 δ1 e1 re1 r1 po1 => by
    obtain ⟨ds, hd, po2⟩ := Post.opt po1
    cases r1 with
    | int j =>
      simp only [bRng1, Option.ite_none_right_eq_some, Option.some.injEq] at hd
      obtain ⟨hl, hd⟩ := hd
      subst hd
      have hl' := of_decide_eq_true hl
      exact ⟨j, rfl, hl'.1, hl'.2, Post.of po2 re1 _ it_rng⟩
    | _ => simp [bRng1] at hd
def forL (g : D → M Unit) (mb : M Fl) : List D → M Fl
  | [] => mNx
  | d :: ds => fun δ => match g d δ with
    | .ok _ δ1 => match mb δ1 with
      | .ok .nx δ2 => forL g mb ds δ2
      | .ok .ct δ2 => forL g mb ds δ2
      | .ok .bk δ2 => .ok .nx δ2
      | .ok (.rt s) δ2 => .ok (.rt s) δ2
      | .exc x δ2 => .exc x δ2
      | .bad => .bad
    | _ => .bad
def mFor (mi : M (List D)) (g : D → M Unit) (mb : M Fl) : M Fl := mBind mi (forL g mb)
theorem js_for {iter : Expr} {body : List Stmt} {mi : M (List D)} {gv : List Nat} {g : D → M Unit} {mb : M Fl} (hpa : PassesOwn (model X.prog X.w) X.A X.env X.xe) (hc : X.calm = true) (hi : PI X tg iter (tOfI X.K E ps mi)) (hg : PG X tg (gOf X.K E ps gv g)) (hb : PSs X body (tOfS X.K E ps mb))
    (hs : ∀ x, foldedSetIterable iter X.env x = pure x := by intro _; rfl) : PS X (.For tg iter body [] pos) (tOfS X.K E ps (mFor mi g mb)) :=
  pst_imp (ps_for hpa hc hi hg hb hs) fun B σ H ⟨W, Hs, δ, hp, re, po⟩ => Cf.stepS hp re po fun ds Hs1 H1 δ1 e1 re1 po1 J hJ => by
    refine ⟨fun i m σ' H' => m = ds.length - i ∧ i ≤ ds.length ∧ ∃ Hs2 δ2, Ex Hs1 Hs2 ∧ RE X.K W Hs2 H' σ' δ2 ∧ PostF X.K E W Hs2 (forL g mb (ds.drop i) δ2) B, ⟨ds.length, rfl, Nat.zero_le _, Hs1, δ1, Ex.refl _, re1, po1⟩, ?_⟩
    rintro i m σ' H' ⟨hm, hi, Hs2, δ2, e2, re2, po2⟩
    obtain ⟨j1, j2⟩ := hJ Hs2 H' e2 re2.ex i
    by_cases hlt : i < ds.length
    · have hd : ds[i]? = some ds[i] := List.getElem?_eq_getElem hlt
      obtain ⟨g1, g2⟩ := j1 _ hd
      refine .inr ⟨g1, fun σ3 H3 => ∃ Hs3 δ3, Ex Hs1 Hs3 ∧ RE X.K W Hs3 H3 σ3 δ3 ∧ PostF X.K E W Hs3 (forL g mb (ds.drop (i + 1)) δ3) B, fun σ3 H3 ⟨Hs3, δ3, e3, re3, po3⟩ => ⟨ds.length - (i + 1), by omega, rfl, hlt, Hs3, δ3, e3, re3, po3⟩, fun x H3 y => ?_⟩
      obtain ⟨Hs3, gr, rx⟩ := g2 x H3 y
      have re3 := re2.grow gr
      have po3 := PostS.ex po2 gr.s
      rw [List.drop_eq_getElem_cons hlt] at po3
      unfold forL at po3
      refine ⟨W, Hs3, δ2, ds[i], hp, re3, rx, ?_⟩
      cases q : g ds[i] δ2 with
      | ok u δ4 =>
        rw [q] at po3
        refine fun σ4 Hs4 H4 e4 re4 _ => ⟨W, Hs4, δ4, hp, re4, ?_⟩
        dsimp only at po3
        cases z : mb δ4 with
        | ok fl δ5 =>
          rw [z] at po3
          cases fl with
          | nx => exact fun σ5 Hs5 H5 e5 re5 => ⟨Hs5, δ5, ((e2.trans gr.s).trans e4).trans e5, re5, PostS.ex po3 (e4.trans e5)⟩
          | ct => exact fun σ5 Hs5 H5 e5 re5 => ⟨Hs5, δ5, ((e2.trans gr.s).trans e4).trans e5, re5, PostS.ex po3 (e4.trans e5)⟩
          | bk => exact fun σ5 Hs5 H5 e5 re5 => po3 σ5 Hs5 H5 (e4.trans e5) re5
          | rt s => cases s <;> exact fun σ5 Hs5 H5 e5 re5 => po3 σ5 Hs5 H5 (e4.trans e5) re5
        | exc x δ5 =>
          rw [z] at po3
          exact fun σ5 Hs5 H5 e5 re5 => po3 σ5 Hs5 H5 (e4.trans e5) re5
        | bad => rw [z] at po3; exact po3
      | exc x δ4 => rw [q] at po3; exact po3
      | bad => rw [q] at po3; exact po3
    · have e : i = ds.length := by omega
      subst e
      rw [List.drop_length] at po2
      exact .inl ⟨j2 (List.getElem?_eq_none_iff.mpr (Nat.le_refl _)), PostS.of po2 re2⟩
end
def wipeE (δ : Env) : List Nat → Env
  | [] => δ
  | v :: vs => (wipeE δ vs).set v .no
def backE (δ1 δ2 : Env) : List Nat → Env
  | [] => δ2
  | v :: vs => (backE δ1 δ2 vs).set v (δ1.getD v .no)
theorem wipeE_length (δ : Env) : ∀ vs, (wipeE δ vs).length = δ.length
  | [] => rfl
  | v :: vs => by unfold wipeE; rw [List.length_set, wipeE_length δ vs]
theorem backE_length (δ1 δ2 : Env) : ∀ vs, (backE δ1 δ2 vs).length = δ2.length
  | [] => rfl
  | v :: vs => by unfold backE; rw [List.length_set, backE_length δ1 δ2 vs]
theorem wipeE_in {δ : Env} {i : Nat} {s : Sl} : ∀ {vs : List Nat}, i ∈ vs → (wipeE δ vs)[i]? = some s → s = .no
  | v :: vs, h, q => by
    unfold wipeE at q
    rcases setGet q with ⟨_, z⟩ | ⟨hj, z⟩
    · exact z
    · rcases List.mem_cons.mp h with e | h
      · exact absurd e hj
      · exact wipeE_in h z
theorem wipeE_out {δ : Env} {i : Nat} : ∀ {vs : List Nat}, i ∉ vs → (wipeE δ vs)[i]? = δ[i]?
  | [], _ => rfl
  | v :: vs, h => by
    unfold wipeE
    have hne : v ≠ i := fun z => h (by simp [z])
    rw [List.getElem?_set_ne hne]
    exact wipeE_out fun z => h (List.mem_cons_of_mem _ z)
theorem backE_in {δ1 δ2 : Env} {i : Nat} {s : Sl} : ∀ {vs : List Nat}, i ∈ vs → (backE δ1 δ2 vs)[i]? = some s → s = δ1.getD i .no
  | v :: vs, h, q => by
    unfold backE at q
    rcases setGet q with ⟨hv, z⟩ | ⟨hj, z⟩
    · rw [hv]; exact z
    · rcases List.mem_cons.mp h with e | h
      · exact absurd e hj
      · exact backE_in h z
theorem backE_out {δ1 δ2 : Env} {i : Nat} : ∀ {vs : List Nat}, i ∉ vs → (backE δ1 δ2 vs)[i]? = δ2[i]?
  | [], _ => rfl
  | v :: vs, h => by
    unfold backE
    have hne : v ≠ i := fun z => h (by simp [z])
    rw [List.getElem?_set_ne hne]
    exact backE_out fun z => h (List.mem_cons_of_mem _ z)
theorem wipe_off {σ σ2 : L2.St} {vs gv : List Nat} (h : Off gv (wipe σ vs) σ2) (hs : ∀ i ∈ gv, i ∈ vs) : wipe σ2 vs = wipe σ vs := by
  apply List.ext_getElem?
  intro j
  by_cases hj : j ∈ vs
  · have f : ∀ (τ : L2.St) (us : List Nat), j ∈ us → (wipe τ us)[j]? = if j < τ.length then some none else none := fun τ us hju => by
      induction us with
      | nil => cases hju
      | cons u us ih =>
        unfold wipe
        by_cases e : u = j
        · subst e
          rw [List.getElem?_set]
          simp [wipe_length]
        · rw [List.getElem?_set_ne e]
          exact ih ((List.mem_cons.mp hju).resolve_left (Ne.symm e))
    rw [f _ _ hj, f _ _ hj, h.1, wipe_length]
  · rw [wipe_out hj, h.2 j (fun z => hj (hs j z)), wipe_out hj]
section
variable {K : Frag} {W : Wd} {Hs H Hs' H' : Hp} {σ : L2.St} {δ δ' : Env} {vs : List Nat}
theorem RE.wipe (re : RE K W Hs H σ δ) (hv : ∀ i ∈ vs, i ∉ W.pn.map (·.1)) : RE K W Hs H (wipe σ vs) (wipeE δ vs) := by
  have r1 : RE K W Hs H σ (wipeE δ vs) := re.less (wipeE_length δ vs) (fun i s q => by
    by_cases hi : i ∈ vs
    · exact .inl (wipeE_in hi q)
    · rw [wipeE_out hi] at q; exact .inr q) fun p hp => wipeE_out fun z => hv p.1 z (List.mem_map_of_mem hp)
  refine r1.sig (wipe_length σ vs) fun i s q hn => ?_
  by_cases hi : i ∈ vs
  · exact absurd (wipeE_in hi q) hn
  · exact wipe_out hi
/-- behind a block: its own names are as they were ahead of it -/
theorem RE.back (re : RE K W Hs H σ δ) (re2 : RE K W Hs' H' (L2.wipe σ vs) δ') (e : Ex Hs Hs') (hno : ∀ i ∈ vs, (δ.getD i .no).own = false) (hv : ∀ i ∈ vs, i ∉ W.pn.map (·.1)) : RE K W Hs' H' σ (backE δ δ' vs) where
  ex := re2.ex
  fg := re2.fg
  len := by rw [backE_length, ← re2.len, wipe_length]
  sh := fun i d q => by
    by_cases hi : i ∈ vs
    · have z := backE_in hi q
      have hg : δ[i]? = some (Sl.sh d) := by
        rw [List.getD_eq_getElem?_getD] at z
        cases w : δ[i]? with
        | none => rw [w] at z; cases z
        | some s => rw [w] at z; exact congrArg some z.symm
      obtain ⟨v, h1, h2⟩ := re.sh i d hg
      exact ⟨v, h1, h2.ex e⟩
    · rw [backE_out hi] at q
      obtain ⟨v, h1, h2⟩ := re2.sh i d q
      rw [wipe_out hi] at h1
      exact ⟨v, h1, h2⟩
  ow := fun i s q w => by
    by_cases hi : i ∈ vs
    · have z := backE_in hi q
      rw [z, hno i hi] at w
      cases w
    · rw [backE_out hi] at q
      obtain ⟨a, o, h1, h2⟩ := re2.ow i s q w
      rw [wipe_out hi] at h1
      exact ⟨a, o, h1, h2⟩
  ap := fun i j s t a h1 h2 h3 h4 h5 h6 => by
    by_cases hi : i ∈ vs
    · have z := backE_in hi h1
      rw [z, hno i hi] at h2
      cases h2
    · by_cases hj : j ∈ vs
      · have z := backE_in hj h3
        rw [z, hno j hj] at h4
        cases h4
      · rw [backE_out hi] at h1
        rw [backE_out hj] at h3
        rw [← wipe_out hi] at h5
        rw [← wipe_out hj] at h6
        exact re2.ap i j s t a h1 h2 h3 h4 h5 h6
  pin := fun p hp => by
    have hi : p.1 ∉ vs := fun z => hv p.1 z (List.mem_map_of_mem hp)
    obtain ⟨h1, s, h2, h3⟩ := re2.pin p hp
    rw [wipe_out hi] at h1
    exact ⟨h1, s, by rw [backE_out hi]; exact h2, h3⟩
/-- a list in the making is lent out to nobody -/
theorem RE.hide {D : Addr} {xs : List PyData} {acc : List V} (re : RE K W Hs H σ δ) (f : FrO K W Hs H σ δ D xs) (ha : H D = some (.lst acc)) : RE K { W with G := upd W.G D (.lst acc) } Hs H σ δ where
  ex := re.ex
  fg := fun a o q => by
    by_cases e : a = D
    · subst e
      have q : upd W.G a (.lst acc) a = some o := q
      rw [upd_same] at q
      cases q
      exact ⟨ha, f.hs⟩
    · have q : upd W.G D (.lst acc) a = some o := q
      rw [upd_ne e] at q
      exact re.fg a o q
  len := re.len
  sh := re.sh
  ow := fun i s q w => by
    obtain ⟨a, o, h1, h2, h3, h4, h5⟩ := re.ow i s q w
    refine ⟨a, o, h1, h2, h3, h4, ?_⟩
    have e : a ≠ D := fun z => f.ne i s q w (z ▸ h1)
    show upd W.G D (.lst acc) a = none
    rw [upd_ne e]
    exact h5
  ap := re.ap
  pin := re.pin
theorem RE.shown {D : Addr} {o u : HO} (re : RE K { W with G := upd W.G D o } Hs H σ δ) (hg : W.G D = none) : RE K W Hs (upd H D u) σ δ where
  ex := fun a o' q => by
    have h := (re.fg D o (by show upd W.G D o D = _; rw [upd_same])).2
    have e : a ≠ D := fun z => by rw [z, h] at q; cases q
    rw [upd_ne e]
    exact re.ex a o' q
  fg := fun a o' q => by
    have e : a ≠ D := fun z => by rw [z, hg] at q; cases q
    rw [upd_ne e]
    exact re.fg a o' (by show upd W.G D o a = _; rw [upd_ne e]; exact q)
  len := re.len
  sh := re.sh
  ow := fun i s q w => by
    obtain ⟨a, o', h1, h2, h3, h4, h5⟩ := re.ow i s q w
    have h5 : upd W.G D o a = none := h5
    have e : a ≠ D := fun z => by rw [z, upd_same] at h5; cases h5
    rw [upd_ne e] at h5
    exact ⟨a, o', h1, by rw [upd_ne e]; exact h2, h3, h4, h5⟩
  ap := re.ap
  pin := re.pin
theorem RE.hidden {D : Addr} {o : HO} (re : RE K { W with G := upd W.G D o } Hs H σ δ) (i : Nat) (s : Sl) (q : δ[i]? = some s) (w : s.own = true) : σ[i]? ≠ some (some (V.ref D)) := fun z => by
  obtain ⟨a, o', h1, h2, h3, h4, h5⟩ := re.ow i s q w
  rw [h1] at z
  cases z
  have h5 : upd W.G D o D = none := h5
  rw [upd_same] at h5
  cases h5
end
def mWipe (vs : List Nat) : M Unit := fun δ => .ok () (wipeE δ vs)
def compL (vs : List Nat) (g : D → M Unit) (mt : M Bool) (me : M D) : List D → M (List D)
  | [] => mPure []
  | d :: ds => fun δ => match g d δ with
    | .ok _ δ1 => mBind mt (fun b => if b then mBind me (fun y => mBind (mWipe vs) fun _ => mBind (compL vs g mt me ds) fun ys => mPure (y :: ys)) else mBind (mWipe vs) fun _ => compL vs g mt me ds) δ1
    | _ => .bad
def compE (vs : List Nat) (g : D → M Unit) (mt : M Bool) (me : M D) (ds : List D) : M (List D) := fun δ =>
  if (vs.all fun i => !(δ.getD i .no).own) = true ∧ ds.length ≤ sizeLine then
    match compL vs g mt me ds (wipeE δ vs) with
    | .ok ys δ2 => .ok ys (backE δ δ2 vs)
    | _ => .bad
  else .bad
def mComp (mi : M (List D)) (vs : List Nat) (g : D → M Unit) (mt : M Bool) (me : M D) : M (List D) := mBind mi (compE vs g mt me)
def mYes : M Bool := mPure true
end Dn
namespace Dn
open PySem PySem.Spec PyProof.Rows L2
section
variable {X : Cx} {E : XQ} {ps : List Nat} {tg e elt iter : Expr} {ifs : List Expr} {pos : Pos} {vs gv : List Nat} {mi : M (List D)} {g : D → M Unit} {mt : M Bool} {me : M D}
/-- what a comprehension's block makes, read off its parts -/
theorem lc_read (hgv : ∀ i ∈ gv, i ∈ vs) (hps : ∀ i ∈ vs, i ∉ ps) {σ : L2.St} {H : Hp} {Q : VK} (h : tOfO X.K E ps (mComp mi vs g mt me) σ H Q) :
    tLc (tOfI X.K E ps mi) (gOf X.K noX ps gv g) (tOfT X.K noX ps mt) (tOf X.K noX ps me) vs σ H Q := by
  obtain ⟨W, Hs, δ, hp, re, po⟩ := h
  have hpn : ∀ i ∈ vs, i ∉ W.pn.map (·.1) := fun i hi => by rw [hp]; exact hps i hi
  refine Cf.step hp re po fun ds Hs1 H1 δ1 e1 re1 po1 J hJ C hC => ?_
  unfold compE at po1
  split at po1
  · rename_i hcond
    obtain ⟨hno', hlen⟩ := hcond
    have hno : ∀ i ∈ vs, (δ1.getD i .no).own = false := fun i hi => by
      have := List.all_eq_true.mp hno' i hi
      simpa using this
    cases hcl : compL vs g mt me ds (wipeE δ1 vs) with
    | ok ys δf =>
      rw [hcl] at po1
      have en : Ex H1 (upd H1 C (.lst [])) := ex_new hC
      have gC : W.G C = none := by
        cases q : W.G C with
        | none => rfl
        | some u => have := (re1.fg C u q).1; rw [hC] at this; cases this
      have re2 := (re1.newH en).wipe (vs := vs) hpn
      have f0 : FrO X.K W Hs1 (upd H1 C (.lst [])) (wipe σ vs) (wipeE δ1 vs) C [] := ⟨⟨[], upd_same, .nil⟩, ex_none re1.ex hC, gC, fun i s q w z => by
        obtain ⟨a, o, h1, h2, _⟩ := (re1.wipe (vs := vs) hpn).ow i s q w
        rw [h1] at z
        cases z
        rw [hC] at h2; cases h2⟩
      refine ⟨fun i m H' => m = ds.length - i ∧ i ≤ ds.length ∧ ∃ Hs2 δ2 done ys2, Ex Hs1 Hs2 ∧ RE X.K W Hs2 H' (wipe σ vs) δ2 ∧ FrO X.K W Hs2 H' (wipe σ vs) δ2 C done ∧ done.length ≤ i ∧ compL vs g mt me (ds.drop i) δ2 = .ok ys2 δf ∧ done ++ ys2 = ys,
        ⟨ds.length, rfl, Nat.zero_le _, Hs1, _, [], ys, Ex.refl _, re2, f0, Nat.le_refl _, hcl, rfl⟩, ?_⟩
      rintro i m H' ⟨hm, hi, Hs2, δ2, done, ys2, e2, re3, f3, hdl, hc3, hys⟩
      obtain ⟨j1, j2⟩ := hJ Hs2 H' e2 re3.ex i
      by_cases hlt : i < ds.length
      · have hd : ds[i]? = some ds[i] := List.getElem?_eq_getElem hlt
        obtain ⟨g1, g2⟩ := j1 _ hd
        refine .inr ⟨g1, fun H3 => ∃ Hs3 δ3 done ys2, Ex Hs1 Hs3 ∧ RE X.K W Hs3 H3 (wipe σ vs) δ3 ∧ FrO X.K W Hs3 H3 (wipe σ vs) δ3 C done ∧ done.length ≤ i + 1 ∧ compL vs g mt me (ds.drop (i + 1)) δ3 = .ok ys2 δf ∧ done ++ ys2 = ys,
          fun H3 hN => ⟨ds.length - (i + 1), by omega, rfl, hlt, hN⟩, fun x H3 y => ?_⟩
        obtain ⟨Hs3, gr, rx⟩ := g2 x H3 y
        obtain ⟨acc, ha, hr⟩ := f3.at_
        have re4 := re3.grow gr
        have f4 : FrO X.K W Hs3 H3 (wipe σ vs) δ2 C done := ⟨⟨acc, gr.h C _ ha, hr.ex gr.s⟩, by rw [gr.f C (by rw [ha]; simp)]; exact f3.hs, f3.g, f3.ne⟩
        have re5 := re4.hide f4 (gr.h C _ ha)
        rw [List.drop_eq_getElem_cons hlt] at hc3
        unfold compL at hc3
        have hp' : ({ W with G := upd W.G C (.lst acc) } : Wd).pn.map (·.1) = ps := hp
        refine ⟨{ W with G := upd W.G C (.lst acc) }, Hs3, δ2, ds[i], hp', re5, rx, ?_⟩
        cases q : g ds[i] δ2 with
        | ok u δ4 =>
          rw [q] at hc3
          refine fun σ4 Hs4 H4 e4 re6 of4 => ⟨wipe_off of4 hgv, ?_⟩
          dsimp only at hc3
          -- a turn's end: the names wiped, the list as it is then
          have turn : ∀ {Hs5 H5 : Hp} {δ5 : Env} {u : HO}, RE X.K { W with G := upd W.G C (.lst acc) } Hs5 H5 σ4 δ5 → RE X.K W Hs5 (upd H5 C u) (wipe σ vs) (wipeE δ5 vs) ∧ (∀ (i : Nat) (s : Sl), (wipeE δ5 vs)[i]? = some s → s.own = true → (wipe σ vs)[i]? ≠ some (some (V.ref C))) ∧ Hs5 C = none ∧ H5 C = some (.lst acc) := fun {Hs5 H5 δ5 u} re7 => by
            have rw7 := re7.wipe (vs := vs) hpn
            rw [wipe_off of4 hgv] at rw7
            have hf := re7.fg C (.lst acc) (by show upd W.G C _ C = _; rw [upd_same])
            exact ⟨rw7.shown f3.g, rw7.hidden, hf.2, hf.1⟩
          refine ⟨_, Hs4, δ4, hp', re6, ?_⟩
          cases zt : mt δ4 with
          | ok b δ5 =>
            rw [show mBind mt _ δ4 = _ from by unfold mBind; rw [zt]] at hc3
            dsimp only at hc3
            refine fun Hs5 H5 e5 re7 => ?_
            cases b with
            | true =>
              rw [if_pos rfl] at hc3 ⊢
              refine ⟨_, Hs5, δ5, hp', re7, ?_⟩
              cases ze : me δ5 with
              | ok yv δ6 =>
                rw [ze] at hc3
                refine fun Hs6 H6 e6 re8 v rv => ?_
                obtain ⟨t1, t2, t3, t4⟩ := turn (u := .lst (acc ++ [v])) re8
                have hal : acc.length = done.length := hr.length
                refine ⟨acc, t4, by omega, ?_⟩
                have hc4 : mBind (compL vs g mt me (ds.drop (i + 1))) (fun ys => mPure (yv :: ys)) (wipeE δ6 vs) = .ok ys2 δf := hc3
                cases zr : compL vs g mt me (ds.drop (i + 1)) (wipeE δ6 vs) with
                | ok ys3 δ7 =>
                  unfold mBind at hc4
                  rw [zr] at hc4
                  have hc5 : Res.ok (yv :: ys3) δ7 = Res.ok ys2 δf := hc4
                  injection hc5 with k1 k2
                  subst k1; subst k2
                  have e16 : Ex Hs1 Hs6 := (((e2.trans gr.s).trans e4).trans e5).trans e6
                  exact ⟨Hs6, _, done ++ [yv], ys3, e16, t1, ⟨⟨acc ++ [v], upd_same, (hr.ex (((gr.s).trans e4).trans (e5.trans e6))).snoc rv⟩, t3, f3.g, t2⟩, by simp; exact hdl, zr, by rw [← hys]; simp⟩
                | exc x δ7 => unfold mBind at hc4; rw [zr] at hc4; cases hc4
                | bad => unfold mBind at hc4; rw [zr] at hc4; cases hc4
              | exc x δ6 => rw [ze] at hc3; cases hc3
              | bad => rw [ze] at hc3; cases hc3
            | false =>
              rw [if_neg Bool.false_ne_true] at hc3 ⊢
              obtain ⟨t1, t2, t3, t4⟩ := turn (u := .lst acc) re7
              have hu : upd H5 C (.lst acc) = H5 := by
                funext b
                by_cases hb : b = C
                · subst hb; rw [upd_same, t4]
                · rw [upd_ne hb]
              rw [hu] at t1
              have hc4 : compL vs g mt me (ds.drop (i + 1)) (wipeE δ5 vs) = .ok ys2 δf := hc3
              exact ⟨Hs5, _, done, ys2, ((e2.trans gr.s).trans e4).trans e5, t1, ⟨⟨acc, t4, hr.ex ((gr.s.trans e4).trans e5)⟩, t3, f3.g, t2⟩, by omega, hc4, hys⟩
          | exc x δ5 => rw [show mBind mt _ δ4 = _ from by unfold mBind; rw [zt]] at hc3; cases hc3
          | bad => rw [show mBind mt _ δ4 = _ from by unfold mBind; rw [zt]] at hc3; cases hc3
        | exc x δ4 => rw [q] at hc3; cases hc3
        | bad => rw [q] at hc3; cases hc3
      · have ei : i = ds.length := by omega
        subst ei
        rw [List.drop_length] at hc3
        have hc4 : Res.ok ([] : List D) δ2 = Res.ok ys2 δf := hc3
        injection hc4 with k1 k2
        subst k1; subst k2
        rw [List.append_nil] at hys
        subst hys
        refine .inl ⟨j2 (List.getElem?_eq_none_iff.mpr (Nat.le_refl _)), ?_⟩
        have rb := re1.back re3 e2 hno hpn
        refine po1 Hs2 H' e2 rb C ⟨f3.at_, f3.hs, f3.g, fun i s q w => ?_⟩
        by_cases hi' : i ∈ vs
        · have z := backE_in hi' q
          rw [z, hno i hi'] at w
          cases w
        · rw [backE_out hi'] at q
          rw [← wipe_out hi']
          exact f3.ne i s q w
    | exc x δf => rw [hcl] at po1; exact po1.elim
    | bad => rw [hcl] at po1; exact po1.elim
  · exact po1.elim
theorem jts_nil : PTs X [] (tOfT X.K E ps mYes) := ⟨fun pins s σ H Q I ⟨W, Hs, δ, hp, re, po⟩ => pts_nil.run pins s σ H Q I (Post.of po re)⟩
theorem jts_one {c : Expr} (h : PT X c (tOfT X.K E ps mt)) : PTs X [c] (tOfT X.K E ps mt) := pts_one h
theorem jo_comp {scope : Scope} {own : List (Str × Nat)} (hgv : ∀ i ∈ gv, i ∈ own.map (·.2)) (hps : ∀ i ∈ own.map (·.2), i ∉ ps) (hc : X.calm = true) (hN : X.N.Nodup) (hi : PI X tg iter (tOfI X.K E ps mi)) (ok : BlkOk X.N X.env.scope scope own)
    (hg : ∀ (s : Shared) (H : Hp) (C : Addr) (cl : List (Str × Addr)) (fp : List Addr), PG (X.blk s H scope (compEnvC scope cl C X.env) fp) tg (gOf X.K noX ps gv g)) (ht : ∀ (s : Shared) (H : Hp) (C : Addr) (cl : List (Str × Addr)) (fp : List Addr), PTs (X.blk s H scope (compEnvC scope cl C X.env) fp) ifs (tOfT X.K noX ps mt))
    (he : ∀ (s : Shared) (H : Hp) (C : Addr) (cl : List (Str × Addr)) (fp : List Addr), PE (X.blk s H scope (compEnvC scope cl C X.env) fp) elt (tOf X.K noX ps me)) (hs : ∀ x, foldedSetIterable iter X.env x = pure x := by intro _; rfl) :
    PE X (.ListComp elt [⟨tg, iter, ifs, 0⟩] scope pos) (tOfO X.K E ps (mComp mi (own.map (·.2)) g mt me)) :=
  pe_imp (pe_lc hc hN hi ok hg ht he hs) fun σ H Q h => lc_read hgv hps h
/-- shared data at last -/
def mFr (m : M (List D)) : M D := mBind m fun xs => mPure (.list xs)
theorem frS {m : M (List D)} {σ : L2.St} {H : Hp} {Q : VK} (h : tOf X.K E ps (mFr m) σ H Q) : tOfO X.K E ps m σ H Q := by
  obtain ⟨W, Hs, δ, hp, re, po⟩ := h
  refine Cf.step hp re po fun xs Hs1 H1 δ1 e1 re1 po1 a fa => ?_
  obtain ⟨Hs2, k1, k2, k3⟩ := re1.freeze fa
  exact po1 Hs2 H1 k1 k2 _ k3
theorem je_fr {m : M (List D)} (h : PE X e (tOfO X.K E ps m)) : PE X e (tOf X.K E ps (mFr m)) := pe_imp h fun σ H Q q => frS q
theorem js_lc {i : Nat} {y : Str} {py : Pos} {scope : Scope} {own : List (Str × Nat)} {spos : Pos} (hips : i ∉ ps) (hgv : ∀ i ∈ gv, i ∈ own.map (·.2)) (hps : ∀ i ∈ own.map (·.2), i ∉ ps) (hc : X.calm = true) (hN : X.N.Nodup) (hy : X.N[i]? = some y) (hyl : X.env.scope.names.lookup y = some .local)
    (hsw : swapsWith (.ListComp elt [⟨tg, iter, ifs, 0⟩] scope pos) (some (.Name y py)) spos.line X.env = pure true) (hi : PI X tg iter (tOfI X.K E ps mi)) (ok : BlkOk X.N X.env.scope scope own)
    (hg : ∀ (s : Shared) (H : Hp) (C : Addr) (cl : List (Str × Addr)) (fp : List Addr), PG (X.blk s H scope (compEnvC scope cl C X.env) fp) tg (gOf X.K noX ps gv g)) (ht : ∀ (s : Shared) (H : Hp) (C : Addr) (cl : List (Str × Addr)) (fp : List Addr), PTs (X.blk s H scope (compEnvC scope cl C X.env) fp) ifs (tOfT X.K noX ps mt))
    (he : ∀ (s : Shared) (H : Hp) (C : Addr) (cl : List (Str × Addr)) (fp : List Addr), PE (X.blk s H scope (compEnvC scope cl C X.env) fp) elt (tOf X.K noX ps me)) (hs : ∀ x, foldedSetIterable iter X.env x = pure x := by intro _; rfl) :
    PS X (.Assign [.Name y py] (.ListComp elt [⟨tg, iter, ifs, 0⟩] scope pos) spos) (tOfS X.K E ps (mSet i (mFr (mComp mi (own.map (·.2)) g mt me)))) :=
  pst_imp (ps_setLc hc hN hy hyl hsw hi ok hg ht he hs) fun B σ H ⟨W, Hs, δ, hp, re, po⟩ => lc_read hgv hps (by
    have po' : PostF X.K E W Hs (mBind (mComp mi (own.map (·.2)) g mt me) (fun xs => fun δ => .ok .nx (δ.set i (.sh (.list xs)))) δ) B := by
      have e : mSet i (mFr (mComp mi (own.map (·.2)) g mt me)) δ = mBind (mComp mi (own.map (·.2)) g mt me) (fun xs => fun δ => .ok .nx (δ.set i (.sh (.list xs)))) δ := by
        unfold mSet mFr mBind mPure
        cases mComp mi (own.map (·.2)) g mt me δ <;> rfl
      rw [← e]; exact po
    refine tOfO.stepS hp re po' fun a xs Hs1 H1 δ1 e1 re1 f1 po1 => ?_
    obtain ⟨Hs2, k1, k2, k3⟩ := re1.freeze f1
    exact PostS.of (PostS.ex po1 k1) (k2.setSh k3 (by rw [hp]; exact hips)))
end
end Dn
namespace Dn
open PySem PySem.Spec PyProof.Rows L2
/-- what is left of the slots behind a def: a caller's own lists -/
def outs (ps : List Nat) (n : Nat) (δ : Env) : Env := (List.range n).map fun i => if i ∈ ps then δ.getD i .no else .no
def fnF (n N : Nat) (ps : List Nat) (mb : M Fl) : Env → Res Sl := fun as => match mb (as ++ List.replicate (N - n) .no) with
  | .ok (.rt s) δ' => .ok s (outs ps n δ')
  | .ok .nx δ' => .ok (.sh .none) (outs ps n δ')
  | .exc x δ' => .exc x (outs ps n δ')
  | _ => .bad
def RetR (K : Frag) (W : Wd) (Hs H : Hp) (σ : L2.St) (δ : Env) (s : Sl) (Q : VK) : Prop := match s with
  | .sh d => ∀ v, Rp K Hs v d → Q v H
  | .ow xs => ∀ a, FrO K W Hs H σ δ a xs → Q (.ref a) H
  | .no => False
/-- what a def promises: F, upon what its parameters hold -/
def spF (K : Frag) (n : Nat) (ps : List Nat) (F : Env → Res Sl) : Sp := fun vs H Q E => vs.length = n ∧ ∃ (W : Wd) (Hs : Hp) (as : Env), W.pn.map (·.1) = ps ∧ RE K W Hs H (vs.map some) as ∧
  match F as with
  | .ok s as' => ∀ Hs' H', Ex Hs Hs' → RE K W Hs' H' (vs.map some) as' → RetR K W Hs' H' (vs.map some) as' s Q
  | .exc x as' => False
  | .bad => False
theorem outs_get {ps : List Nat} {n i : Nat} {δ : Env} {s : Sl} (h : (outs ps n δ)[i]? = some s) (hn : s ≠ .no) : i < n ∧ i ∈ ps ∧ δ[i]? = some s := by
  unfold outs at h
  rw [List.getElem?_map, Option.map_eq_some_iff] at h
  obtain ⟨j, hj, h⟩ := h
  obtain ⟨hi, hj⟩ := List.getElem?_eq_some_iff.mp hj
  rw [List.getElem_range] at hj
  subst hj
  rw [List.length_range] at hi
  by_cases hp : i ∈ ps
  · rw [if_pos hp] at h
    refine ⟨hi, hp, ?_⟩
    rw [List.getD_eq_getElem?_getD] at h
    cases w : δ[i]? with
    | none => rw [w] at h; exact absurd h.symm hn
    | some t => rw [w] at h; exact congrArg some h
  · rw [if_neg hp] at h
    exact absurd h.symm hn
section
variable {K : Frag} {W : Wd} {Hs H Hs' H' : Hp} {σ : L2.St} {δ δ' : Env} {vs : List V} {N n : Nat} {as : Env}
theorem RE.app (r : RE K W Hs H σ δ) (k : Nat) : RE K W Hs H (σ ++ List.replicate k none) (δ ++ List.replicate k .no) where
  ex := r.ex
  fg := r.fg
  len := by simp [r.len]
  sh := fun i d q => by
    by_cases hi : i < δ.length
    · rw [List.getElem?_append_left hi] at q
      rw [List.getElem?_append_left (by rw [r.len]; exact hi)]
      exact r.sh i d q
    · rw [List.getElem?_append_right (by omega), List.getElem?_replicate] at q
      split at q <;> cases q
  ow := fun i s q w => by
    by_cases hi : i < δ.length
    · rw [List.getElem?_append_left hi] at q
      rw [List.getElem?_append_left (by rw [r.len]; exact hi)]
      exact r.ow i s q w
    · rw [List.getElem?_append_right (by omega), List.getElem?_replicate] at q
      split at q
      · cases q; cases w
      · cases q
  ap := fun i j s t a h1 h2 h3 h4 h5 h6 => by
    have f : ∀ {i : Nat} {s : Sl}, (δ ++ List.replicate k Sl.no)[i]? = some s → s.own = true → i < δ.length := fun {i s} q w => by
      by_cases hi : i < δ.length
      · exact hi
      · rw [List.getElem?_append_right (by omega), List.getElem?_replicate] at q
        split at q
        · cases q; cases w
        · cases q
    have li := f h1 h2
    have lj := f h3 h4
    rw [List.getElem?_append_left li] at h1
    rw [List.getElem?_append_left lj] at h3
    rw [List.getElem?_append_left (by rw [r.len]; exact li)] at h5
    rw [List.getElem?_append_left (by rw [r.len]; exact lj)] at h6
    exact r.ap i j s t a h1 h2 h3 h4 h5 h6
  pin := fun p hp => by
    obtain ⟨h1, s, h2, h3⟩ := r.pin p hp
    have l1 := (List.getElem?_eq_some_iff.mp h1).1
    have l2 := (List.getElem?_eq_some_iff.mp h2).1
    exact ⟨by rw [List.getElem?_append_left l1]; exact h1, s, by rw [List.getElem?_append_left l2]; exact h2, h3⟩
/-- behind a def's body -/
theorem RE.outs {ps : List Nat} (r0 : RE K W Hs H (vs.map some) as) (hp : W.pn.map (·.1) = ps) (r : RE K W Hs' H' σ δ) : RE K W Hs' H' (vs.map some) (outs ps vs.length δ) := by
  have f : ∀ {i : Nat} {s : Sl}, (Dn.outs ps vs.length δ)[i]? = some s → s ≠ .no → δ[i]? = some s ∧ (vs.map some)[i]? = σ[i]? ∧ s.own = true := fun {i s} q hn => by
    obtain ⟨h1, h2, h3⟩ := outs_get q hn
    rw [← hp] at h2
    obtain ⟨p, hpm, hpe⟩ := List.mem_map.mp h2
    obtain ⟨a1, _⟩ := r0.pin p hpm
    obtain ⟨b1, s', b2, b3⟩ := r.pin p hpm
    rw [hpe] at a1 b1 b2
    rw [h3] at b2
    cases b2
    exact ⟨h3, a1.trans b1.symm, b3⟩
  exact {
    ex := r.ex
    fg := r.fg
    len := by simp [Dn.outs]
    sh := fun i d q => by
      obtain ⟨h1, h2, h3⟩ := f q (by simp)
      cases h3
    ow := fun i s q w => by
      obtain ⟨h1, h2, h3⟩ := f q (by rintro rfl; cases w)
      rw [h2]
      exact r.ow i s h1 w
    ap := fun i j s t a h1 h2 h3 h4 h5 h6 => by
      obtain ⟨a1, a2, _⟩ := f h1 (by rintro rfl; cases h2)
      obtain ⟨b1, b2, _⟩ := f h3 (by rintro rfl; cases h4)
      rw [a2] at h5
      rw [b2] at h6
      exact r.ap i j s t a a1 h2 b1 h4 h5 h6
    pin := fun p hpm => by
      obtain ⟨a1, _⟩ := r0.pin p hpm
      obtain ⟨b1, s', b2, b3⟩ := r.pin p hpm
      refine ⟨a1, s', ?_, b3⟩
      have hl : p.1 < vs.length := by
        have := (List.getElem?_eq_some_iff.mp a1).1
        simpa using this
      unfold Dn.outs
      rw [List.getElem?_map, List.getElem?_range hl]
      have hm : p.1 ∈ ps := by rw [← hp]; exact List.mem_map_of_mem hpm
      simp only [Option.map_some, if_pos hm]
      rw [List.getD_eq_getElem?_getD, b2]
      rfl }
theorem FrO.outs {ps : List Nat} {a : Addr} {xs : List D} (r0 : RE K W Hs H (vs.map some) as) (hp : W.pn.map (·.1) = ps) (r : RE K W Hs' H' σ δ) (f : FrO K W Hs' H' σ δ a xs) : FrO K W Hs' H' (vs.map some) (Dn.outs ps vs.length δ) a xs :=
  ⟨f.at_, f.hs, f.g, fun i s q w => by
    obtain ⟨h1, h2, h3⟩ := outs_get q (by rintro rfl; cases w)
    rw [← hp] at h2
    obtain ⟨p, hpm, hpe⟩ := List.mem_map.mp h2
    obtain ⟨a1, _⟩ := r0.pin p hpm
    obtain ⟨b1, _⟩ := r.pin p hpm
    rw [hpe] at a1 b1
    rw [a1, ← b1]
    exact f.ne i s h3 w⟩
end
section
variable {P : Program} {w : World} {K : Frag} {mg : Str → Option Value} {base : Heap}
/-- a def keeps its promise: by its body as a run upon data -/
theorem fn_J {x qual : Str} {st : Stmt} {f : Addr} {fd : FuncData} {N pr : List Str} {k n nN : Nat} {ps : List Nat} {mb : M Fl} (F : Fun K x qual st f fd) (S : FnScope N pr (defScope st)) (hn : pr.length = n) (hN : N.length = nN) (hle : n ≤ nN)
    (hbody : ∀ (cdv : Value) (A : Around) (outer : List PySem.Env) (s : Shared) (H : Hp) (E : XK), Room k (A.deeper (envOfC qual (defScope st) s.heap.objs.size f cdv)) →
      PSs (cxOf CX0 P w K mg base N qual (defScope st) f cdv A outer s H E).nox (defBody st) (tOfS K noX ps mb)) : FnOk P w K mg base CX0 (k + 1) f fd pr (spF K n ps (fnF n nN ps mb)) := by
  refine F.ok S (fun vs H Q E h => by rw [h.1, hn]) fun cdv A outer s H vs Q E hr h => ⟨_, hbody cdv A outer s H E hr, ?_⟩
  obtain ⟨hl, W, Hs, as, hp, re, po⟩ := h
  have hst : L2.start N vs = vs.map some ++ List.replicate (nN - n) none := by unfold L2.start; rw [hN, hl]
  refine ⟨W, Hs, as ++ List.replicate (nN - n) .no, hp, by rw [hst]; exact re.app _, ?_⟩
  unfold fnF at po
  cases q : mb (as ++ List.replicate (nN - n) .no) with
  | ok fl δ' =>
    rw [q] at po
    cases fl with
    | nx =>
      intro σ' Hs' H' e r
      have hr' := re.outs hp r
      rw [hl] at hr'
      exact po Hs' H' e hr' .non .non
    | rt sl =>
      cases sl with
      | sh d =>
        intro σ' Hs' H' e r v rv
        have hr' := re.outs hp r
        rw [hl] at hr'
        exact po Hs' H' e hr' v rv
      | ow xs =>
        intro σ' Hs' H' e r a fa
        have hr' := re.outs hp r
        have hf := FrO.outs re hp r fa
        rw [hl] at hr' hf
        exact po Hs' H' e hr' a hf
      | no =>
        intro σ' Hs' H' e r
        have hr' := re.outs hp r
        rw [hl] at hr'
        exact po Hs' H' e hr'
    | bk => exact po.elim
    | ct => exact po.elim
  | exc x δ' => rw [q] at po; exact po.elim
  | bad => rw [q] at po; exact po.elim
end
def agSl (δ : Env) : Ag → Sl
  | .sh d => .sh d
  | .ow i => δ.getD i .no
def ownAt : Nat → List Ag → List Nat
  | _, [] => []
  | k, .sh _ :: gs => ownAt (k + 1) gs
  | k, .ow _ :: gs => k :: ownAt (k + 1) gs
def ownIx : List Ag → List Nat
  | [] => []
  | .sh _ :: gs => ownIx gs
  | .ow i :: gs => i :: ownIx gs
def putBack (δ : Env) : List Ag → List Sl → Env
  | .ow i :: gs, s :: ss => (putBack δ gs ss).set i s
  | .sh _ :: gs, _ :: ss => putBack δ gs ss
  | _, _ => δ
def callF (n : Nat) (ps : List Nat) (F : Env → Res Sl) (gs : List Ag) : M Sl := fun δ =>
  if gs.length = n ∧ ownAt 0 gs = ps ∧ (ownIx gs).Nodup ∧ ((ownIx gs).all fun i => (δ.getD i .no).own) = true then
    match F (gs.map (agSl δ)) with
    | .ok s as' => .ok s (putBack δ gs as')
    | _ => .bad
  else .bad
def mCall (n : Nat) (ps : List Nat) (F : Env → Res Sl) (as : List AM) : M Sl := mBind (evA as) (callF n ps F)
end Dn
namespace Dn
open PySem PySem.Spec PyProof.Rows L2
theorem AgR.len {K : Frag} {Hs : Hp} {σ : L2.St} : ∀ {vs : List V} {gs : List Ag}, AgR K Hs σ vs gs → vs.length = gs.length
  | [], [], _ => rfl
  | [], _ :: _, h => h.elim
  | _ :: _, [], h => h.elim
  | _ :: _, .sh _ :: _, h => by rw [List.length_cons, List.length_cons, AgR.len h.2]
  | _ :: _, .ow _ :: _, h => by rw [List.length_cons, List.length_cons, AgR.len h.2]
section
variable {X : Cx} {E : XQ} {ps : List Nat} {e : Expr} {es : List Expr} {pos : Pos} {as : List AM} {k n : Nat} {f : Addr} {fd : FuncData} {pr : List Str} {qs : List Nat} {F : Env → Res Sl} {x : Str} {p : Pos}
theorem bind_assoc {α β γ : Type} (m : M α) (f : α → M β) (g : β → M γ) : mBind (mBind m f) g = mBind m fun a => mBind (f a) g := by
  funext δ
  unfold mBind
  cases m δ <;> rfl
end
end Dn
namespace Dn
open PySem PySem.Spec PyProof.Rows L2
@[irreducible] def Run {α : Type} (m : M α) (δ : Env) (Q : α → Env → Prop) : Prop := match m δ with
  | .ok a δ' => Q a δ'
  | _ => False
@[irreducible] def FRun (F : Env → Res Sl) (as : Env) (Q : Sl → Env → Prop) : Prop := match F as with
  | .ok s as' => Q s as'
  | _ => False
section
variable {α β : Type} {δ δ1 : Env} {m : M D}
theorem Run.i {m : M α} {Q : α → Env → Prop} (h : match m δ with
  | .ok a δ' => Q a δ'
  | _ => False) : Run m δ Q := by unfold Run; exact h
theorem run_pure {a : α} {Q : α → Env → Prop} (h : Q a δ) : Run (mPure a) δ Q := Run.i h
theorem Run.mono {m : M α} {Q Q' : α → Env → Prop} (h : Run m δ Q) (k : ∀ a e, Q a e → Q' a e) : Run m δ Q' := by
  unfold Run at *
  cases q : m δ with
  | ok a e => rw [q] at h; exact k a e h
  | exc x e => rw [q] at h; exact h
  | bad => rw [q] at h; exact h
theorem FRun.mono {F : Env → Res Sl} {as : Env} {Q Q' : Sl → Env → Prop} (h : FRun F as Q) (k : ∀ a e, Q a e → Q' a e) : FRun F as Q' := by
  unfold FRun at *
  cases q : F as with
  | ok a e => rw [q] at h; exact k a e h
  | exc x e => rw [q] at h; exact h
  | bad => rw [q] at h; exact h
theorem FRun.of {F : Env → Res Sl} {as as' : Env} {s : Sl} {Q : Sl → Env → Prop} (h : F as = .ok s as') (k : Q s as') : FRun F as Q := by
  unfold FRun
  rw [h]
  exact k
theorem FRun.to {F : Env → Res Sl} {as : Env} {Q : Sl → Env → Prop} (h : FRun F as Q) : ∃ s as', F as = .ok s as' ∧ Q s as' := by
  unfold FRun at h
  cases q : F as with
  | ok a e => rw [q] at h; exact ⟨a, e, rfl, h⟩
  | exc x e => rw [q] at h; exact h.elim
  | bad => rw [q] at h; exact h.elim
theorem run_bind {m : M α} {f : α → M β} {Q : β → Env → Prop} (h : Run m δ fun a e => Run (f a) e Q) : Run (mBind m f) δ Q := by
  unfold Run at *
  unfold mBind
  cases q : m δ with
  | ok a e => rw [q] at h; exact h
  | exc x e => rw [q] at h; exact h
  | bad => rw [q] at h; exact h
theorem run_opt {o : Option α} {Q : α → Env → Prop} (h : ∃ a, o = some a ∧ Q a δ) : Run (mOpt o) δ Q := by
  obtain ⟨a, h1, h2⟩ := h
  subst h1
  exact Run.i h2
theorem run_var {i : Nat} {d : D} {Q : D → Env → Prop} (h : δ[i]? = some (Sl.sh d)) (k : Q d δ) : Run (mVar i) δ Q := by
  unfold Run mVar
  rw [h]
  exact k
theorem run_c {d : D} {Q : D → Env → Prop} (k : Q d δ) : Run (mC d) δ Q := run_pure k
theorem run_own {i : Nat} {xs : List D} {Q : List D → Env → Prop} (h : δ[i]? = some (Sl.ow xs)) (k : Q xs δ) : Run (mOwn i) δ Q := by
  unfold Run mOwn
  rw [h]
  exact k
theorem run_bin {g : D → D → Option D} {ma mb : M D} {Q : D → Env → Prop} (h : Run ma δ fun d e1 => Run mb e1 fun e e2 => ∃ c, g d e = some c ∧ Q c e2) : Run (mBin g ma mb) δ Q :=
  run_bind (h.mono fun _ _ h => run_bind (h.mono fun _ _ h => run_opt h))
theorem run_test {Q : Bool → Env → Prop} (h : Run m δ fun d e => ∃ b, toB d = some b ∧ Q b e) : Run (mTest m) δ Q := run_bind (h.mono fun _ _ h => run_opt h)
theorem run_chain {g g' : D → D → Option D} {ma mb mc : M D} {Q : D → Env → Prop} (h : Run ma δ fun d e1 => Run mb e1 fun e e2 => ∃ c, g d e = some c ∧ ∃ b, toB c = some b ∧ (b = true → Run mc e2 fun f e3 => ∃ c, g' e f = some c ∧ Q c e3) ∧ (b = false → Q (.bool false) e2)) : Run (mChain g g' ma mb mc) δ Q :=
  run_bind (h.mono fun d _ h => run_bind (h.mono fun e _ ⟨c, h1, b, h2, h3, h4⟩ => run_bind (run_opt ⟨b, by rw [h1]; exact h2, by
    cases b with
    | true => exact run_bind ((h3 rfl).mono fun _ _ h => run_opt h)
    | false => exact run_pure (h4 rfl)⟩)))
theorem run_ag0 {Q : List Ag → Env → Prop} (k : Q [] δ) : Run (evA []) δ Q := Run.i k
theorem run_callB {g : List D → Option D} {as : List AM} {Q : D → Env → Prop} (h : Run (evA as) δ fun gs e => ∃ ds, shs gs = some ds ∧ ∃ c, g ds = some c ∧ Q c e) : Run (mCallB g as) δ Q :=
  run_bind (h.mono fun gs _ ⟨ds, h1, c, h2, h3⟩ => run_opt ⟨c, by rw [h1]; exact h2, h3⟩)
theorem run_isi {T : String} {Q : D → Env → Prop} (h : Run m δ fun d e => ∃ b, kitB (tyD d) T = some b ∧ Q (.bool b) e) : Run (mIsi T m) δ Q :=
  run_bind (h.mono fun d _ ⟨b, h1, h2⟩ => run_opt ⟨_, by rw [h1]; rfl, h2⟩)
theorem run_m1 {g : Str → List D → Option D} {mo : M D} {Q : D → Env → Prop} (h : Run mo δ fun d e1 => ∃ z, toS d = some z ∧ Run m e1 fun e e2 => ∃ c, g z [e] = some c ∧ Q c e2) : Run (mM1 g mo m) δ Q :=
  run_bind (h.mono fun _ _ ⟨z, h1, h2⟩ => run_bind (run_opt ⟨z, h1, run_bind (h2.mono fun _ _ h => run_opt h)⟩))
theorem run_shs {as : List AM} {Q : List D → Env → Prop} (h : Run (evA as) δ fun gs e => ∃ ds, shs gs = some ds ∧ ds.length ≤ sizeLine ∧ Q ds e) : Run (mShs as) δ Q :=
  run_bind (h.mono fun gs _ ⟨ds, h1, h2, h3⟩ => run_opt ⟨ds, by rw [h1]; simp [Option.filter, h2], h3⟩)
theorem run_tup {as : List AM} {Q : D → Env → Prop} (h : Run (evA as) δ fun gs e => ∃ ds, shs gs = some ds ∧ ds.length ≤ sizeLine ∧ Q (.tuple ds) e) : Run (mTup as) δ Q := run_bind (run_shs (h.mono fun _ _ ⟨ds, h1, h2, h3⟩ => ⟨ds, h1, h2, Run.i h3⟩))
theorem run_lst {as : List AM} {Q : D → Env → Prop} (h : Run (evA as) δ fun gs e => ∃ ds, shs gs = some ds ∧ ds.length ≤ sizeLine ∧ Q (.list ds) e) : Run (mLst as) δ Q := run_bind (run_shs (h.mono fun _ _ ⟨ds, h1, h2, h3⟩ => ⟨ds, h1, h2, Run.i h3⟩))
theorem run_ifb {b : Bool} {m1 m2 : M α} {Q : α → Env → Prop} (h1 : b = true → Run m1 δ Q) (h2 : b = false → Run m2 δ Q) : Run (if b = true then m1 else m2) δ Q := by
  cases b with
  | true => exact h1 rfl
  | false => exact h2 rfl
theorem run_andT {t1 t2 : M Bool} {Q : Bool → Env → Prop} (h : Run t1 δ fun b e => (b = true → Run t2 e Q) ∧ (b = false → Q false e)) : Run (mAndT t1 t2) δ Q := run_bind (h.mono fun b e h => run_ifb h.1 fun z => Run.i (h.2 z))
theorem run_orT {t1 t2 : M Bool} {Q : Bool → Env → Prop} (h : Run t1 δ fun b e => (b = true → Q true e) ∧ (b = false → Run t2 e Q)) : Run (mOrT t1 t2) δ Q := run_bind (h.mono fun b e h => run_ifb (fun z => Run.i (h.1 z)) h.2)
theorem run_notT {t : M Bool} {Q : Bool → Env → Prop} (h : Run t δ fun b e => Q (!b) e) : Run (mNotT t) δ Q := run_bind (h.mono fun _ _ h => Run.i h)
theorem run_andV {m1 m2 : M D} {Q : D → Env → Prop} (h : Run m1 δ fun d e => ∃ b, toB d = some b ∧ (b = true → Run m2 e Q) ∧ (b = false → Q (.bool false) e)) : Run (mAndV m1 m2) δ Q := run_bind (run_test (h.mono fun _ _ ⟨b, h1, h2, h3⟩ => ⟨b, h1, run_ifb h2 fun z => Run.i (h3 z)⟩))
theorem run_orV {m1 m2 : M D} {Q : D → Env → Prop} (h : Run m1 δ fun d e => ∃ b, toB d = some b ∧ (b = true → Q (.bool true) e) ∧ (b = false → Run m2 e Q)) : Run (mOrV m1 m2) δ Q := run_bind (run_test (h.mono fun _ _ ⟨b, h1, h2, h3⟩ => ⟨b, h1, run_ifb (fun z => Run.i (h2 z)) h3⟩))
theorem run_notV {Q : D → Env → Prop} (h : Run m δ fun d e => ∃ b, toB d = some b ∧ Q (.bool (!b)) e) : Run (mNotV m) δ Q := run_bind (run_test (h.mono fun _ _ ⟨b, h1, h2⟩ => ⟨b, h1, Run.i h2⟩))
theorem run_ifE {t : M Bool} {m1 m2 : M D} {Q : D → Env → Prop} (h : Run t δ fun b e => (b = true → Run m1 e Q) ∧ (b = false → Run m2 e Q)) : Run (mIfE t m1 m2) δ Q := run_bind (h.mono fun b e h => run_ifb h.1 h.2)
theorem run_neg {Q : D → Env → Prop} (h : Run m δ fun d e => ∃ c, dNeg d = some c ∧ Q c e) : Run (mNeg m) δ Q := run_bind (h.mono fun _ _ h => run_opt h)
theorem run_sl {ml mh : M (Option Int)} {Q : D → Env → Prop} (h : Run m δ fun d e => Run ml e fun l e1 => Run mh e1 fun u e2 => ∃ c, dSl d l u = some c ∧ Q c e2) : Run (mSl m ml mh) δ Q := run_bind (h.mono fun _ _ h => run_bind (h.mono fun _ _ h => run_bind (h.mono fun _ _ h => run_opt h)))
theorem run_part {Q : Option Int → Env → Prop} (h : Run m δ fun d e => ∃ c, toI d = some c ∧ Q c e) : Run (mPart m) δ Q := run_bind (h.mono fun _ _ h => run_opt h)
theorem run_noPart {Q : Option Int → Env → Prop} (h : Q none δ) : Run mNoPart δ Q := Run.i h
theorem run_nx {Q : Fl → Env → Prop} (h : Q .nx δ) : Run mNx δ Q := Run.i h
theorem run_seq {m1 m2 : M Fl} {Q : Fl → Env → Prop} (h : Run m1 δ fun fl e => (fl = .nx → Run m2 e Q) ∧ (fl ≠ .nx → Q fl e)) : Run (mSeq m1 m2) δ Q := by
  unfold Run at *
  unfold mSeq
  cases q : m1 δ with
  | ok fl e =>
    rw [q] at h
    cases fl with
    | nx => exact h.1 rfl
    | rt s => exact h.2 (by simp)
    | bk => exact h.2 (by simp)
    | ct => exact h.2 (by simp)
  | exc x e => rw [q] at h; exact h
  | bad => rw [q] at h; exact h
theorem run_expr {Q : Fl → Env → Prop} (h : Run m δ fun _ e => Q .nx e) : Run (mExpr m) δ Q := run_bind (h.mono fun _ _ h => Run.i h)
theorem run_ret {Q : Fl → Env → Prop} (h : Run m δ fun d e => Q (.rt (.sh d)) e) : Run (mRet m) δ Q := run_bind (h.mono fun _ _ h => Run.i h)
theorem run_ifS {t : M Bool} {m1 m2 : M Fl} {Q : Fl → Env → Prop} (h : Run t δ fun b e => (b = true → Run m1 e Q) ∧ (b = false → Run m2 e Q)) : Run (mIfS t m1 m2) δ Q := run_bind (h.mono fun b e h => run_ifb h.1 h.2)
theorem run_set {i : Nat} {Q : Fl → Env → Prop} (h : Run m δ fun d e => Q .nx (e.set i (.sh d))) : Run (mSet i m) δ Q := run_bind (h.mono fun _ _ h => Run.i h)
theorem run_setIx {k : Nat} {mi me : M D} {Q : Fl → Env → Prop} (h : Run me δ fun d e1 => ∃ xs, e1[k]? = some (Sl.ow xs) ∧ Run mi e1 fun e e2 => ∃ n, toI e = some (some n) ∧ ∃ ys, e2[k]? = some (Sl.ow ys) ∧ ∃ j, ixN ys.length n = some j ∧ Q .nx (e2.set k (.ow (ys.set j d)))) : Run (mSetIx k mi me) δ Q :=
  run_bind (h.mono fun _ _ ⟨xs, h1, h2⟩ => run_bind (run_own h1 (run_bind (h2.mono fun _ _ ⟨n, h3, ys, h4, j, h5, h6⟩ => run_bind (run_own h4 (run_bind (run_opt ⟨some n, h3, run_bind (run_opt ⟨j, h5, Run.i h6⟩)⟩)))))))
theorem run_app {k : Nat} {me : M D} {xs : List D} {Q : Fl → Env → Prop} (hx : δ[k]? = some (Sl.ow xs)) (h : Run me δ fun d e1 => ∃ ys, e1[k]? = some (Sl.ow ys) ∧ ys.length < sizeLine ∧ Q .nx (e1.set k (.ow (ys ++ [d])))) : Run (mApp k me) δ Q :=
  run_bind (run_own hx (run_bind (h.mono fun _ _ ⟨ys, h1, h2, h3⟩ => run_bind (run_own h1 (run_bind (run_opt ⟨(), if_pos h2, Run.i h3⟩))))))
theorem run_asg {g : D → M Unit} {Q : Fl → Env → Prop} (h : Run m δ fun d e => ∃ e', g d e = .ok () e' ∧ Q .nx e') : Run (mAsg g m) δ Q :=
  run_bind (h.mono fun _ _ ⟨e', h1, h2⟩ => by unfold Run; simp only [h1]; exact h2)
theorem run_iter {Q : List D → Env → Prop} (h : Run m δ fun d e => ∃ ds, dItems d = some ds ∧ Q ds e) : Run (mIter m) δ Q := run_bind (h.mono fun _ _ h => run_opt h)
theorem run_rng1 {Q : List D → Env → Prop} (h : Run m δ fun d e => ∃ ds, bRng1 d = some ds ∧ Q ds e) : Run (mRng1 m) δ Q := run_bind (h.mono fun _ _ h => run_opt h)
theorem run_rng2 {ma mb : M D} {Q : List D → Env → Prop} (h : Run ma δ fun d e1 => Run mb e1 fun e e2 => ∃ ds, bRng2 d e = some ds ∧ Q ds e2) : Run (mRng2 ma mb) δ Q := run_bind (h.mono fun _ _ h => run_bind (h.mono fun _ _ h => run_opt h))
theorem run_for {mi : M (List D)} {g : D → M Unit} {mb : M Fl} {Q : Fl → Env → Prop} (h : Run mi δ fun ds e => Run (forL g mb ds) e Q) : Run (mFor mi g mb) δ Q := run_bind h
theorem run_fr {m : M (List D)} {Q : D → Env → Prop} (h : Run m δ fun xs e => Q (.list xs) e) : Run (mFr m) δ Q := run_bind (h.mono fun _ _ h => Run.i h)
/-- a loop by what holds ahead of each turn -/
theorem run_forL {g : D → M Unit} {mb : M Fl} {Q : Fl → Env → Prop} (ds : List D) (I : Nat → Env → Prop) (h0 : I 0 δ)
    (hs : ∀ (i : Nat) (d : D) (e : Env), ds[i]? = some d → I i e → ∃ e1, g d e = .ok () e1 ∧ Run mb e1 fun fl e2 => (fl = .nx ∨ fl = .ct → I (i + 1) e2) ∧ (fl = .bk → Q .nx e2) ∧ (∀ s, fl = .rt s → Q (.rt s) e2))
    (hd : ∀ e, I ds.length e → Q .nx e) : Run (forL g mb ds) δ Q := by
  suffices H : ∀ (k i : Nat) (e : Env), i + k = ds.length → I i e → Run (forL g mb (ds.drop i)) e Q by
    have := H ds.length 0 δ (by omega) h0
    rwa [List.drop_zero] at this
  intro k
  induction k with
  | zero =>
    intro i e hi hI
    have e' : i = ds.length := by omega
    subst e'
    rw [List.drop_length]
    exact Run.i (hd e hI)
  | succ k ih =>
    intro i e hi hI
    have hlt : i < ds.length := by omega
    obtain ⟨e1, h1, h2⟩ := hs i ds[i] e (List.getElem?_eq_getElem hlt) hI
    rw [List.drop_eq_getElem_cons hlt]
    unfold Run forL
    rw [h1]
    unfold Run at h2
    dsimp only
    cases q : mb e1 with
    | ok fl e2 =>
      rw [q] at h2
      obtain ⟨a1, a2, a3⟩ := h2
      cases fl with
      | nx => have z := ih (i + 1) e2 (by omega) (a1 (.inl rfl)); unfold Run at z; exact z
      | ct => have z := ih (i + 1) e2 (by omega) (a1 (.inr rfl)); unfold Run at z; exact z
      | bk => exact a2 rfl
      | rt s => exact a3 s rfl
    | exc x e2 => rw [q] at h2; exact h2
    | bad => rw [q] at h2; exact h2
/-- a comprehension by what holds ahead of each turn: J i ys e, with the items made so far -/
theorem run_comp {mi : M (List D)} {vs : List Nat} {g : D → M Unit} {mt : M Bool} {me : M D} {Q : List D → Env → Prop}
    (h : Run mi δ fun ds e => (vs.all fun i => !(e.getD i .no).own) = true ∧ ds.length ≤ sizeLine ∧ Run (compL vs g mt me ds) (wipeE e vs) fun ys e2 => Q ys (backE e e2 vs)) : Run (mComp mi vs g mt me) δ Q :=
  run_bind (h.mono fun ds e ⟨h1, h2, h3⟩ => by
    unfold Run compE
    rw [if_pos ⟨h1, h2⟩]
    unfold Run at h3
    cases q : compL vs g mt me ds (wipeE e vs) with
    | ok ys e2 => rw [q] at h3; exact h3
    | exc x e2 => rw [q] at h3; exact h3
    | bad => rw [q] at h3; exact h3)
theorem run_compL {vs : List Nat} {g : D → M Unit} {mt : M Bool} {me : M D} (ds : List D) (J : Nat → List D → Env → Prop) {Q : List D → Env → Prop} (h0 : J 0 [] δ)
    (hs : ∀ (i : Nat) (d : D) (ys : List D) (e : Env), ds[i]? = some d → J i ys e → ∃ e1, g d e = .ok () e1 ∧ Run mt e1 fun b e2 => (b = true → Run me e2 fun y e3 => J (i + 1) (ys ++ [y]) (wipeE e3 vs)) ∧ (b = false → J (i + 1) ys (wipeE e2 vs)))
    (hd : ∀ ys e, J ds.length ys e → Q ys e) : Run (compL vs g mt me ds) δ Q := by
  suffices H : ∀ (k i : Nat) (ys : List D) (e : Env), i + k = ds.length → J i ys e → Run (compL vs g mt me (ds.drop i)) e fun zs e2 => Q (ys ++ zs) e2 by
    have := H ds.length 0 [] δ (by omega) h0
    rw [List.drop_zero] at this
    exact this.mono fun _ _ h => h
  intro k
  induction k with
  | zero =>
    intro i ys e hi hJ
    have e' : i = ds.length := by omega
    subst e'
    rw [List.drop_length]
    refine Run.i ?_
    show Q (ys ++ []) e
    rw [List.append_nil]
    exact hd ys e hJ
  | succ k ih =>
    intro i ys e hi hJ
    have hlt : i < ds.length := by omega
    obtain ⟨e1, h1, h2⟩ := hs i ds[i] ys e (List.getElem?_eq_getElem hlt) hJ
    rw [List.drop_eq_getElem_cons hlt]
    have z : Run (mBind mt (fun b => if b then mBind me (fun y => mBind (mWipe vs) fun _ => mBind (compL vs g mt me (ds.drop (i + 1))) fun ys => mPure (y :: ys)) else mBind (mWipe vs) fun _ => compL vs g mt me (ds.drop (i + 1)))) e1 fun zs e2 => Q (ys ++ zs) e2 := by
      refine run_bind (h2.mono fun b e2 h => run_ifb (fun hb => ?_) fun hb => ?_)
      · refine run_bind ((h.1 hb).mono fun y e3 hJ' => run_bind (Run.i ?_))
        show Run (mBind (compL vs g mt me (ds.drop (i + 1))) fun ys => mPure (y :: ys)) (wipeE e3 vs) _
        refine run_bind ((ih (i + 1) _ _ (by omega) hJ').mono fun zs e4 q => Run.i ?_)
        show Q (ys ++ (y :: zs)) e4
        rw [List.append_assoc] at q
        exact q
      · refine run_bind (Run.i ?_)
        show Run (compL vs g mt me (ds.drop (i + 1))) (wipeE e2 vs) _
        exact ih (i + 1) _ _ (by omega) (h.2 hb)
    unfold Run at z ⊢
    unfold compL
    rw [h1]
    exact z
/-- a def, by its body -/
theorem frun_fn {n N : Nat} {ps : List Nat} {mb : M Fl} {as : Env} {Q : Sl → Env → Prop} (h : Run mb (as ++ List.replicate (N - n) .no) fun fl e => (fl = .nx → Q (.sh .none) (outs ps n e)) ∧ (∀ s, fl = .rt s → Q s (outs ps n e)) ∧ fl ≠ .bk ∧ fl ≠ .ct) : FRun (fnF n N ps mb) as Q := by
  unfold FRun fnF
  unfold Run at h
  cases q : mb (as ++ List.replicate (N - n) .no) with
  | ok fl e =>
    rw [q] at h
    obtain ⟨h1, h2, h3, h4⟩ := h
    cases fl with
    | nx => exact h1 rfl
    | rt s => exact h2 s rfl
    | bk => exact (h3 rfl).elim
    | ct => exact (h4 rfl).elim
  | exc x e => rw [q] at h; exact h
  | bad => rw [q] at h; exact h
end
end Dn
namespace Dn
open PySem PySem.Spec PyProof.Rows L2 TL
@[reducible] def isStr : D → Bool
  | .str _ => true
  | _ => false
section
variable {Q : D → Prop} {i j : Int} {x y : Str} {xs ys : List D} {d e : D}
theorem bx_add_int (h : Q (.int (i + j))) : ∃ c, dAdd (.int i) (.int j) = some c ∧ Q c := ⟨_, rfl, h⟩
theorem bx_add_str (hl : x.length + y.length ≤ sizeLine) (h : Q (.str (x ++ y))) : ∃ c, dAdd (.str x) (.str y) = some c ∧ Q c := ⟨_, if_pos hl, h⟩
theorem bx_add_tup (hl : xs.length + ys.length ≤ sizeLine) (h : Q (.tuple (xs ++ ys))) : ∃ c, dAdd (.tuple xs) (.tuple ys) = some c ∧ Q c := ⟨_, if_pos hl, h⟩
theorem bx_add_lst (hl : xs.length + ys.length ≤ sizeLine) (h : Q (.list (xs ++ ys))) : ∃ c, dAdd (.list xs) (.list ys) = some c ∧ Q c := ⟨_, if_pos hl, h⟩
theorem bx_sub (h : Q (.int (i - j))) : ∃ c, dSub (.int i) (.int j) = some c ∧ Q c := ⟨_, rfl, h⟩
theorem bx_mul (hc : (-(2 ^ 64) < i ∧ i < 2 ^ 64) ∨ (-(2 ^ 64) < j ∧ j < 2 ^ 64)) (h : Q (.int (i * j))) : ∃ c, dMul (.int i) (.int j) = some c ∧ Q c := ⟨_, if_pos hc, h⟩
theorem bx_rep (hc : -1000000 ≤ j ∧ j ≤ 1000000 ∧ x.length ≤ 16) (h : Q (.str (strRep x j))) : ∃ c, dMul (.str x) (.int j) = some c ∧ Q c := ⟨_, if_pos hc, h⟩
theorem bx_mod (hc : 0 < j) (h : Q (.int (i % j))) : ∃ c, dMod (.int i) (.int j) = some c ∧ Q c := ⟨_, if_pos (decide_eq_true hc), h⟩
theorem bx_div (hc : 0 < j ∧ j < 4611686018427387904) (h : Q (.int (i / j))) : ∃ c, dDiv (.int i) (.int j) = some c ∧ Q c := ⟨_, if_pos (decide_eq_true hc), h⟩
theorem bx_pow (hc : 0 ≤ j ∧ j ≤ 1000000 ∧ i.natAbs < 2 ^ 64) (h : Q (.int (i ^ j.toNat))) : ∃ c, dPow (.int i) (.int j) = some c ∧ Q c := ⟨_, if_pos (decide_eq_true hc), h⟩
theorem bx_eq_str (h : Q (.bool (decide (x = y)))) : ∃ c, dEq (.str x) (.str y) = some c ∧ Q c := ⟨_, rfl, h⟩
theorem bx_ne_str (h : Q (.bool (!decide (x = y)))) : ∃ c, dNe (.str x) (.str y) = some c ∧ Q c := ⟨_, rfl, h⟩
theorem dEqB_of (hn : isStr d = false ∨ isStr e = false) (h1 : SeqAt.shaped d = true) (h2 : SeqAt.shaped e = true) : dEqB d e = some (PyData.eqv d e) := by
  have z : (if SeqAt.shaped d = true ∧ SeqAt.shaped e = true then some (PyData.eqv d e) else none) = some (PyData.eqv d e) := if_pos ⟨h1, h2⟩
  cases d <;> first | exact z | (cases e <;> first | exact z | (rcases hn with hn | hn <;> cases hn))
theorem bx_eq (hn : isStr d = false ∨ isStr e = false) (h1 : SeqAt.shaped d = true) (h2 : SeqAt.shaped e = true) (h : Q (.bool (PyData.eqv d e))) : ∃ c, dEq d e = some c ∧ Q c := ⟨_, by unfold dEq; rw [dEqB_of hn h1 h2]; rfl, h⟩
theorem bx_ne (hn : isStr d = false ∨ isStr e = false) (h1 : SeqAt.shaped d = true) (h2 : SeqAt.shaped e = true) (h : Q (.bool (!PyData.eqv d e))) : ∃ c, dNe d e = some c ∧ Q c := ⟨_, by unfold dNe; rw [dEqB_of hn h1 h2]; rfl, h⟩
theorem eqv_int : PyData.eqv (.int i) (.int j) = decide (i = j) := by by_cases h : i = j <;> simp [PyData.eqv, h]
theorem eqv_bl {a b : Bool} : PyData.eqv (.bool a) (.bool b) = decide (a = b) := by cases a <;> cases b <;> rfl
theorem bx_eq_int (h : Q (.bool (decide (i = j)))) : ∃ c, dEq (.int i) (.int j) = some c ∧ Q c := bx_eq (.inl rfl) rfl rfl (by rw [eqv_int]; exact h)
theorem bx_eq_bl {a b : Bool} (h : Q (.bool (decide (a = b)))) : ∃ c, dEq (.bool a) (.bool b) = some c ∧ Q c := bx_eq (.inl rfl) rfl rfl (by rw [eqv_bl]; exact h)
theorem bx_ne_int (h : Q (.bool (!decide (i = j)))) : ∃ c, dNe (.int i) (.int j) = some c ∧ Q c := bx_ne (.inl rfl) rfl rfl (by rw [eqv_int]; exact h)
theorem bx_ne_bl {a b : Bool} (h : Q (.bool (!decide (a = b)))) : ∃ c, dNe (.bool a) (.bool b) = some c ∧ Q c := bx_ne (.inl rfl) rfl rfl (by rw [eqv_bl]; exact h)
theorem bx_lt (h : Q (.bool (decide (i < j)))) : ∃ c, dLt (.int i) (.int j) = some c ∧ Q c := ⟨_, rfl, h⟩
theorem bx_le (h : Q (.bool (decide (i ≤ j)))) : ∃ c, dLe (.int i) (.int j) = some c ∧ Q c := ⟨_, rfl, h⟩
theorem bx_gt (h : Q (.bool (decide (j < i)))) : ∃ c, dGt (.int i) (.int j) = some c ∧ Q c := ⟨_, rfl, h⟩
theorem bx_ge (h : Q (.bool (decide (j ≤ i)))) : ∃ c, dGe (.int i) (.int j) = some c ∧ Q c := ⟨_, rfl, h⟩
theorem bx_in_str (h : Q (.bool (strIn x y))) : ∃ c, dIn (.str x) (.str y) = some c ∧ Q c := ⟨_, rfl, h⟩
theorem bx_nin_str (h : Q (.bool (!strIn x y))) : ∃ c, dNotIn (.str x) (.str y) = some c ∧ Q c := ⟨_, rfl, h⟩
theorem dInB_tup (h1 : flatD d = true) (h2 : xs.all flatD = true) : dInB d (.tuple xs) = some (inD d xs) := by
  cases d <;> first | exact if_pos ⟨h1, h2⟩ | simp [flatD] at h1
theorem bx_in_tup (h1 : flatD d = true) (h2 : xs.all flatD = true) (h : Q (.bool (inD d xs))) : ∃ c, dIn d (.tuple xs) = some c ∧ Q c := ⟨_, by unfold dIn; rw [dInB_tup h1 h2]; rfl, h⟩
theorem bx_is_bl {a b : Bool} (h : Q (.bool (decide (a = b)))) : ∃ c, dIs (.bool a) (.bool b) = some c ∧ Q c := ⟨_, rfl, h⟩
theorem bx_isNot_bl {a b : Bool} (h : Q (.bool (!decide (a = b)))) : ∃ c, dIsNot (.bool a) (.bool b) = some c ∧ Q c := ⟨_, rfl, h⟩
theorem bx_is_non (h : Q (.bool (isN d))) : ∃ c, dIs d .none = some c ∧ Q c := ⟨.bool (isN d), by unfold dIs; cases d <;> rfl, h⟩
theorem bx_isNot_non (h : Q (.bool (!isN d))) : ∃ c, dIsNot d .none = some c ∧ Q c := ⟨.bool (!isN d), by unfold dIsNot; cases d <;> rfl, h⟩
theorem bx_ix_lst (h1 : atI xs i = some d) (h : Q d) : ∃ c, dIx (.list xs) (.int i) = some c ∧ Q c := ⟨d, h1, h⟩
theorem bx_ix_tup (h1 : atI xs i = some d) (h : Q d) : ∃ c, dIx (.tuple xs) (.int i) = some c ∧ Q c := ⟨d, h1, h⟩
theorem bx_ix_str {c : Nat} (hl : x.length ≤ sizeLine) (h1 : atI x.cps.toList i = some c) (h : Q (.str ⟨#[c]⟩)) : ∃ c, dIx (.str x) (.int i) = some c ∧ Q c := ⟨.str ⟨#[c]⟩, by show (if x.length ≤ sizeLine then (atI x.cps.toList i).map (fun c => PyData.str ⟨#[c]⟩) else none) = _; rw [if_pos hl, h1]; rfl, h⟩
theorem bx_sl_str {lo hi : Option Int} (hl : x.length ≤ sizeLine) (h : Q (.str (cutS x lo hi))) : ∃ c, dSl (.str x) lo hi = some c ∧ Q c := ⟨_, if_pos hl, h⟩
theorem bx_sl_tup {lo hi : Option Int} (h : Q (.tuple (cutD xs lo hi))) : ∃ c, dSl (.tuple xs) lo hi = some c ∧ Q c := ⟨_, rfl, h⟩
theorem bx_sl_lst {lo hi : Option Int} (h : Q (.list (cutD xs lo hi))) : ∃ c, dSl (.list xs) lo hi = some c ∧ Q c := ⟨_, rfl, h⟩
theorem bx_neg (h : Q (.int (-i))) : ∃ c, dNeg (.int i) = some c ∧ Q c := ⟨_, rfl, h⟩
theorem bx_len_str (hl : x.length ≤ sizeLine) (h : Q (.int x.length)) : ∃ c, bLen [.str x] = some c ∧ Q c := ⟨_, if_pos hl, h⟩
theorem bx_len_lst (h : Q (.int xs.length)) : ∃ c, bLen [.list xs] = some c ∧ Q c := ⟨_, rfl, h⟩
theorem bx_len_tup (h : Q (.int xs.length)) : ∃ c, bLen [.tuple xs] = some c ∧ Q c := ⟨_, rfl, h⟩
theorem bx_int_int (h : Q (.int i)) : ∃ c, bInt [.int i] = some c ∧ Q c := ⟨_, rfl, h⟩
theorem bx_int_bl {b : Bool} (h : Q (.int (if b then 1 else 0))) : ∃ c, bInt [.bool b] = some c ∧ Q c := ⟨_, rfl, h⟩
theorem bx_II {f : Int → Int → Int} (h : Q (.int (f i j))) : ∃ c, bII f [.int i, .int j] = some c ∧ Q c := ⟨_, rfl, h⟩
theorem bx_tuple_lst (h : Q (.tuple xs)) : ∃ c, bTuple [.list xs] = some c ∧ Q c := ⟨_, rfl, h⟩
theorem bx_tuple_tup (h : Q (.tuple xs)) : ∃ c, bTuple [.tuple xs] = some c ∧ Q c := ⟨_, rfl, h⟩
theorem bx_list_lst (h : Q (.list xs)) : ∃ c, bList [.list xs] = some c ∧ Q c := ⟨_, rfl, h⟩
theorem bx_list_tup (h : Q (.list xs)) : ∃ c, bList [.tuple xs] = some c ∧ Q c := ⟨_, rfl, h⟩
theorem toBs_map : ∀ bs : List Bool, toBs (bs.map PyData.bool) = some bs
  | [] => rfl
  | b :: r => by rw [List.map_cons]; unfold toBs; rw [toBs_map r]; rfl
theorem toSs_map : ∀ bs : List Str, toSs (bs.map PyData.str) = some bs
  | [] => rfl
  | b :: r => by rw [List.map_cons]; unfold toSs; rw [toSs_map r]; rfl
theorem bx_bools {f : List Bool → Bool} {bs : List Bool} (h : Q (.bool (f bs))) : ∃ c, bBools f [.list (bs.map PyData.bool)] = some c ∧ Q c := ⟨.bool (f bs), by show (toBs (bs.map PyData.bool)).map _ = _; rw [toBs_map]; rfl, h⟩
theorem bx_split (h1 : (y.length == 0) = false) (h2 : x.length + 2 ≤ sizeLine) (h : Q (.list ((Txt.split x y).map PyData.str))) : ∃ c, sSplit x [.str y] = some c ∧ Q c := ⟨_, if_pos ⟨h1, h2⟩, h⟩
theorem bx_join {ns : List Str} (h1 : joinN x ns ≤ 16777216) (h : Q (.str (Txt.join x ns))) : ∃ c, sJoin x [.list (ns.map PyData.str)] = some c ∧ Q c := ⟨.str (Txt.join x ns), by
  show ((toSs (ns.map PyData.str)).bind fun ys => if joinN x ys ≤ 16777216 then some (PyData.str (Txt.join x ys)) else none) = _
  rw [toSs_map]
  exact if_pos h1, h⟩
theorem bx_joinO {P : D → Prop} {ns : List Str} (h1 : joinN x ns ≤ 16777216) (h : P (.str (Txt.join x ns))) : ∃ c, sJoin x [.list (ns.map PyData.str)] = some c ∧ flatD c = true ∧ P c := ⟨.str (Txt.join x ns), by
  show ((toSs (ns.map PyData.str)).bind fun ys => if joinN x ys ≤ 16777216 then some (PyData.str (Txt.join x ys)) else none) = _
  rw [toSs_map]
  exact if_pos h1, rfl, h⟩
theorem bx_rng1 {R : List D → Prop} (h1 : inLine i = true) (h : R (rngD 0 i.toNat)) : ∃ ds, bRng1 (.int i) = some ds ∧ R ds := ⟨_, if_pos h1, h⟩
theorem bx_it_lst {R : List D → Prop} (h : R xs) : ∃ ds, dItems (.list xs) = some ds ∧ R ds := ⟨_, rfl, h⟩
theorem bx_it_tup {R : List D → Prop} (h : R xs) : ∃ ds, dItems (.tuple xs) = some ds ∧ R ds := ⟨_, rfl, h⟩
theorem bx_it_str {R : List D → Prop} (h : R (sgnD x)) : ∃ ds, dItems (.str x) = some ds ∧ R ds := ⟨_, rfl, h⟩
end
theorem inLine_of {i : Int} (h : -(2 ^ 62) ≤ i ∧ i < 2 ^ 62) : inLine i = true := decide_eq_true h
theorem line_of {n : Nat} (h : n ≤ 16777216) : n ≤ sizeLine := h
theorem kb_ss : kitB "str" "str" = some true := by decide +kernel
theorem kb_is : kitB "int" "str" = some false := by decide +kernel
theorem kb_bs : kitB "bool" "str" = some false := by decide +kernel
theorem kb_ns : kitB "NoneType" "str" = some false := by decide +kernel
theorem kb_ls : kitB "list" "str" = some false := by decide +kernel
theorem kb_ts : kitB "tuple" "str" = some false := by decide +kernel
theorem kb_ii : kitB "int" "int" = some true := by decide +kernel
theorem kb_bi : kitB "bool" "int" = some true := by decide +kernel
theorem kb_si : kitB "str" "int" = some false := by decide +kernel
theorem kb_ni : kitB "NoneType" "int" = some false := by decide +kernel
theorem kb_li : kitB "list" "int" = some false := by decide +kernel
theorem kb_ti : kitB "tuple" "int" = some false := by decide +kernel
theorem kb_bb : kitB "bool" "bool" = some true := by decide +kernel
theorem kb_ib : kitB "int" "bool" = some false := by decide +kernel
theorem kb_sb : kitB "str" "bool" = some false := by decide +kernel
theorem kb_nb : kitB "NoneType" "bool" = some false := by decide +kernel
theorem kb_lb : kitB "list" "bool" = some false := by decide +kernel
theorem kb_tb : kitB "tuple" "bool" = some false := by decide +kernel
theorem kb_tt : kitB "tuple" "tuple" = some true := by decide +kernel
theorem kb_it : kitB "int" "tuple" = some false := by decide +kernel
theorem kb_bt : kitB "bool" "tuple" = some false := by decide +kernel
theorem kb_st : kitB "str" "tuple" = some false := by decide +kernel
theorem kb_nt : kitB "NoneType" "tuple" = some false := by decide +kernel
theorem kb_lt : kitB "list" "tuple" = some false := by decide +kernel
@[reducible] def isBool : D → Bool
  | .bool _ => true
  | _ => false
@[reducible] def isInt : D → Bool
  | .int _ => true
  | .bool _ => true
  | _ => false
@[reducible] def isTup : D → Bool
  | .tuple _ => true
  | _ => false
def noDict : D → Bool
  | .dict _ => false
  | _ => true
section
variable {R : Bool → Prop} {d : D}
theorem bx_isi_str (hd : noDict d = true) (h : R (isStr d)) : ∃ b, kitB (tyD d) "str" = some b ∧ R b := by
  cases d <;> first | exact ⟨_, kb_ss, h⟩ | exact ⟨_, kb_is, h⟩ | exact ⟨_, kb_bs, h⟩ | exact ⟨_, kb_ns, h⟩ | exact ⟨_, kb_ls, h⟩ | exact ⟨_, kb_ts, h⟩ | cases hd
theorem bx_isi_bool (hd : noDict d = true) (h : R (isBool d)) : ∃ b, kitB (tyD d) "bool" = some b ∧ R b := by
  cases d <;> first | exact ⟨_, kb_bb, h⟩ | exact ⟨_, kb_ib, h⟩ | exact ⟨_, kb_sb, h⟩ | exact ⟨_, kb_nb, h⟩ | exact ⟨_, kb_lb, h⟩ | exact ⟨_, kb_tb, h⟩ | cases hd
theorem bx_isi_int (hd : noDict d = true) (h : R (isInt d)) : ∃ b, kitB (tyD d) "int" = some b ∧ R b := by
  cases d <;> first | exact ⟨_, kb_ii, h⟩ | exact ⟨_, kb_bi, h⟩ | exact ⟨_, kb_si, h⟩ | exact ⟨_, kb_ni, h⟩ | exact ⟨_, kb_li, h⟩ | exact ⟨_, kb_ti, h⟩ | cases hd
theorem bx_isi_tup (hd : noDict d = true) (h : R (isTup d)) : ∃ b, kitB (tyD d) "tuple" = some b ∧ R b := by
  cases d <;> first | exact ⟨_, kb_tt, h⟩ | exact ⟨_, kb_it, h⟩ | exact ⟨_, kb_bt, h⟩ | exact ⟨_, kb_st, h⟩ | exact ⟨_, kb_nt, h⟩ | exact ⟨_, kb_lt, h⟩ | cases hd
end
section
variable {A B : Prop} {Q : Sl → Env → Prop} {R : Fl → Env → Prop} {s : Sl} {ps : List Nat} {n : Nat} {e : Env} {p : Prop} {m : M Fl}
theorem seq_nx (h : A) : (Fl.nx = .nx → A) ∧ (Fl.nx ≠ .nx → B) := ⟨fun _ => h, fun z => absurd rfl z⟩
theorem seq_rt (h : B) : (Fl.rt s = .nx → A) ∧ (Fl.rt s ≠ .nx → B) := ⟨fun z => (nomatch z), fun _ => h⟩
theorem fin_rt (h : Q s (outs ps n e)) : (Fl.rt s = .nx → A) ∧ (∀ s', Fl.rt s = .rt s' → Q s' (outs ps n e)) ∧ Fl.rt s ≠ .bk ∧ Fl.rt s ≠ .ct := ⟨fun z => (nomatch z), fun s' z => by cases z; exact h, by simp, by simp⟩
theorem fin_nx (h : A) : (Fl.nx = .nx → A) ∧ (∀ s', Fl.nx = .rt s' → Q s' (outs ps n e)) ∧ Fl.nx ≠ .bk ∧ Fl.nx ≠ .ct := ⟨fun _ => h, fun s' z => (nomatch z), by simp, by simp⟩
theorem turn_nx {C : Sl → Prop} (h : A) : (Fl.nx = .nx ∨ Fl.nx = .ct → A) ∧ (Fl.nx = .bk → B) ∧ (∀ s', Fl.nx = .rt s' → C s') := ⟨fun _ => h, fun z => (nomatch z), fun s' z => (nomatch z)⟩
theorem turn_ct {C : Sl → Prop} (h : A) : (Fl.ct = .nx ∨ Fl.ct = .ct → A) ∧ (Fl.ct = .bk → B) ∧ (∀ s', Fl.ct = .rt s' → C s') := ⟨fun _ => h, fun z => (nomatch z), fun s' z => (nomatch z)⟩
theorem turn_bk {C : Sl → Prop} (h : B) : (Fl.bk = .nx ∨ Fl.bk = .ct → A) ∧ (Fl.bk = .bk → B) ∧ (∀ s', Fl.bk = .rt s' → C s') := ⟨fun z => by simp at z, fun _ => h, fun s' z => (nomatch z)⟩
theorem turn_rt {C : Sl → Prop} (h : C s) : (Fl.rt s = .nx ∨ Fl.rt s = .ct → A) ∧ (Fl.rt s = .bk → B) ∧ (∀ s', Fl.rt s = .rt s' → C s') := ⟨fun z => by simp at z, fun z => (nomatch z), fun s' z => by cases z; exact h⟩
theorem two_T (h : A) : (true = true → A) ∧ (true = false → B) := ⟨fun _ => h, fun z => (nomatch z)⟩
theorem two_F (h : B) : (false = true → A) ∧ (false = false → B) := ⟨fun z => (nomatch z), fun _ => h⟩
theorem two_dec [Decidable p] (h1 : p → A) (h2 : ¬ p → B) : (decide p = true → A) ∧ (decide p = false → B) := ⟨fun z => h1 (of_decide_eq_true z), fun z => h2 (of_decide_eq_false z)⟩
theorem two_dT {α : Type} {a : α} [Decidable (a = a)] (h : A) : (decide (a = a) = true → A) ∧ (decide (a = a) = false → B) := two_dec (fun _ => h) fun z => absurd rfl z
theorem two_not {b : Bool} (h : (b = true → B) ∧ (b = false → A)) : ((!b) = true → A) ∧ ((!b) = false → B) := ⟨fun z => h.2 (by simpa using z), fun z => h.1 (by simpa using z)⟩
theorem toB_bl {b : Bool} {R : Bool → Prop} (h : R b) : ∃ k, toB (.bool b) = some k ∧ R k := ⟨b, rfl, h⟩
end
theorem filter_take_succ {α : Type} (p : α → Bool) (ds : List α) (i : Nat) (d : α) (h : ds[i]? = some d) : (ds.take (i + 1)).filter p = (ds.take i).filter p ++ (if p d then [d] else []) := by
  rw [List.take_add_one, h, List.filter_append]
  cases hp : p d <;> simp [hp]
theorem run_yes {e : Env} {Q : Bool → Env → Prop} (h : Q true e) : Run mYes e Q := Run.i h
theorem mem_sgnD {z : Str} {d : D} (h : d ∈ sgnD z) : ∃ c, c ∈ tl z ∧ d = .str ⟨#[c]⟩ := by
  obtain ⟨c, h1, h2⟩ := List.mem_map.mp h
  exact ⟨c, h1, h2.symm⟩
theorem sgnD_len (z : Str) : (sgnD z).length = z.length := by simp [sgnD, Str.length]
theorem strIn1 {c : Nat} {y : Str} : strIn ⟨#[c]⟩ y = decide (c ∈ tl y) := rfl
theorem inD_strs (x : Str) : ∀ ys : List Str, inD (.str x) (ys.map PyData.str) = ys.contains x
  | [] => rfl
  | y :: ys => by
    have ih := inD_strs x ys
    unfold inD at ih ⊢
    rw [List.map_cons, List.any_cons, ih, List.contains_cons]
    congr 1
    rw [show PyData.eqv (.str y) (.str x) = (y == x) by simp [PyData.eqv]]
    by_cases h : y = x
    · subst h; simp
    · have h' : x ≠ y := fun z => h z.symm
      rw [beq_eq_false_iff_ne.mpr h, beq_eq_false_iff_ne.mpr h']
theorem flat_strs : ∀ ys : List Str, (ys.map PyData.str).all flatD = true
  | [] => rfl
  | y :: ys => by rw [List.map_cons, List.all_cons, flat_strs ys]; rfl
/-- parts of a text are no longer than it -/
theorem spl_len (S : List Nat) : ∀ (l : List Nat) (k : Nat) (acc : List Nat), ∀ p ∈ spl S k acc l, p.length ≤ acc.length + l.length
  | [], k, acc, p, h => by
    rw [spl_nil] at h
    simp at h
    subst h
    simp
  | c :: r, 0, acc, p, h => by
    by_cases hp : pre S (c :: r) = true
    · rw [spl_hit hp] at h
      rcases List.mem_cons.mp h with e | h
      · subst e; simp
      · have := spl_len S r _ _ p h
        simp at this ⊢
        omega
    · rw [spl_miss (by simpa using hp)] at h
      have := spl_len S r _ _ p h
      simp at this ⊢
      omega
  | c :: r, k + 1, acc, p, h => by
    have := spl_len S r k acc p h
    simp at this ⊢
    omega
theorem spl_count (S : List Nat) : ∀ (l : List Nat) (k : Nat) (acc : List Nat), (spl S k acc l).length ≤ l.length + 1
  | [], k, acc => by rw [spl_nil]; simp
  | c :: r, 0, acc => by
    by_cases hp : pre S (c :: r) = true
    · rw [spl_hit hp]
      have := spl_count S r (S.length - 1) []
      simp; omega
    · rw [spl_miss (by simpa using hp)]
      have := spl_count S r 0 (acc ++ [c])
      simp; omega
  | c :: r, k + 1, acc => by
    have := spl_count S r k acc
    show (spl S k acc r).length ≤ _
    simp; omega
theorem run_forL_nil {δ : Env} {g : D → M Unit} {mb : M Fl} {Q : Fl → Env → Prop} (h : Q .nx δ) : Run (forL g mb []) δ Q := Run.i h
theorem flat_int {i : Int} {P : Prop} (h : P) : flatD (.int i) = true ∧ P := ⟨rfl, h⟩
theorem flat_str {x : Str} {P : Prop} (h : P) : flatD (.str x) = true ∧ P := ⟨rfl, h⟩
theorem flat_bl {b : Bool} {P : Prop} (h : P) : flatD (.bool b) = true ∧ P := ⟨rfl, h⟩
theorem eqv_nil (ds : List D) : PyData.eqv (.list ds) (.list []) = ds.isEmpty := by cases ds <;> simp [PyData.eqv, PyData.eqvAll]
theorem split_len {x y : Str} (hy : tl y ≠ []) (hk : y.cps.all (· < 256) = true) : ∀ p ∈ Txt.split x y, p.length ≤ x.length := fun p hp => by
  have e := split_spl x y hy (kind_ok hk)
  have hm : tl p ∈ spl (tl y) 0 [] (tl x) := by rw [← e]; exact List.mem_map_of_mem hp
  have := spl_len _ _ _ _ _ hm
  rw [len_tl, len_tl]
  simpa using this
theorem split_count {x y : Str} (hy : tl y ≠ []) (hk : y.cps.all (· < 256) = true) : (Txt.split x y).length ≤ x.length + 1 := by
  have e := congrArg List.length (split_spl x y hy (kind_ok hk))
  rw [List.length_map] at e
  rw [e, len_tl]
  exact spl_count _ _ _ _
theorem spl_mem (S : List Nat) : ∀ (l : List Nat) (k : Nat) (acc : List Nat), ∀ p ∈ spl S k acc l, ∀ c ∈ p, c ∈ acc ∨ c ∈ l
  | [], k, acc, p, h, c, hc => by
    rw [spl_nil] at h
    simp at h
    subst h
    exact .inl hc
  | a :: r, 0, acc, p, h, c, hc => by
    by_cases hp : pre S (a :: r) = true
    · rw [spl_hit hp] at h
      rcases List.mem_cons.mp h with e | h
      · subst e; exact .inl hc
      · rcases spl_mem S r _ _ p h c hc with z | z
        · cases z
        · exact .inr (List.mem_cons_of_mem _ z)
    · rw [spl_miss (by simpa using hp)] at h
      rcases spl_mem S r _ _ p h c hc with z | z
      · rcases List.mem_append.mp z with z | z
        · exact .inl z
        · exact .inr (by simp at z; simp [z])
      · exact .inr (List.mem_cons_of_mem _ z)
  | a :: r, k + 1, acc, p, h, c, hc => by
    rcases spl_mem S r k acc p h c hc with z | z
    · exact .inl z
    · exact .inr (List.mem_cons_of_mem _ z)
theorem split_mem {x y : Str} (hy : tl y ≠ []) (hk : y.cps.all (· < 256) = true) : ∀ p ∈ Txt.split x y, ∀ c ∈ tl p, c ∈ tl x := fun p hp c hc => by
  have e := split_spl x y hy (kind_ok hk)
  have hm : tl p ∈ spl (tl y) 0 [] (tl x) := by rw [← e]; exact List.mem_map_of_mem hp
  rcases spl_mem _ _ _ _ _ hm c hc with z | z
  · cases z
  · exact z
end Dn
namespace Dn
open PySem PySem.Spec PyProof.Rows L2 TL
theorem tl_cutS (x : Str) (lo hi : Option Int) : tl (cutS x lo hi) = ((tl x).drop (HT.sIx x.length 0 lo)).take (HT.sIx x.length x.length hi - HT.sIx x.length 0 lo) := by
  unfold cutS
  simp [tl]
/-- texts of up to n plain signs -/
def Ok (n : Nat) (x : Str) : Prop := x.length ≤ n ∧ ∀ c ∈ tl x, c < 128
theorem Ok.line {n : Nat} {x : Str} (h : Ok n x) (hn : n ≤ 16777216 := by decide) : x.length ≤ sizeLine := Nat.le_trans h.1 hn
theorem Ok.mono {n m : Nat} {x : Str} (h : Ok n x) (k : n ≤ m) : Ok m x := ⟨Nat.le_trans h.1 k, h.2⟩
theorem len_append (x y : Str) : (x ++ y).length = x.length + y.length := by rw [len_tl, len_tl, len_tl, tl_append, List.length_append]
theorem Ok.append {n m : Nat} {x y : Str} (h : Ok n x) (k : Ok m y) : Ok (n + m) (x ++ y) := ⟨by rw [len_append]; have := h.1; have := k.1; omega, fun c hc => by
  rw [tl_append] at hc
  exact (List.mem_append.mp hc).elim (h.2 c) (k.2 c)⟩
theorem cutS_mem {x : Str} {lo hi : Option Int} {c : Nat} (h : c ∈ tl (cutS x lo hi)) : c ∈ tl x := by
  rw [tl_cutS] at h
  exact List.mem_of_mem_drop (List.mem_of_mem_take h)
theorem cutS_len {x : Str} {lo hi : Option Int} : (cutS x lo hi).length ≤ x.length := by
  rw [len_tl, tl_cutS, List.length_take, List.length_drop, ← len_tl]
  omega
theorem Ok.cut {n : Nat} {x : Str} (h : Ok n x) (lo hi : Option Int) : Ok n (cutS x lo hi) := ⟨Nat.le_trans cutS_len h.1, fun c hc => h.2 c (cutS_mem hc)⟩
theorem Ok.lit (x : Str) (n : Nat) (h : (decide (x.length ≤ n) && (tl x).all (· < 128)) = true) : Ok n x := by
  rw [Bool.and_eq_true] at h
  exact ⟨of_decide_eq_true h.1, fun c hc => by simpa using List.all_eq_true.mp h.2 c hc⟩
theorem Ok.one {c : Nat} (h : c < 128) : Ok 1 ⟨#[c]⟩ := ⟨Nat.le_refl 1, fun d hd => by simp [tl] at hd; omega⟩
theorem tl_join (ss : List Str) : tl (Txt.join Str.empty ss) = ss.flatMap tl := by
  show tl (PySem.Builtin.Str.glued _ ss) = _
  rw [StrLaws.glued_eq_join]
  induction ss with
  | nil => rfl
  | cons a r ih =>
    cases r with
    | nil => simp [Str.join]
    | cons b r =>
      show tl (a ++ Str.empty ++ Str.join Str.empty (b :: r)) = _
      rw [tl_append, tl_append, ih]
      simp [tl, Str.empty]
theorem joinN_le {ss : List Str} {k : Nat} (h : ∀ s ∈ ss, s.length ≤ k) : joinN Str.empty ss ≤ ss.length * k := by
  unfold joinN
  show _ + ss.length * 0 ≤ _
  rw [Nat.mul_zero, Nat.add_zero]
  induction ss with
  | nil => simp
  | cons a r ih =>
    have h1 := h a List.mem_cons_self
    have h2 := ih fun s hs => h s (List.mem_cons_of_mem _ hs)
    rw [List.map_cons, List.sum_cons, List.length_cons, Nat.succ_mul]
    omega
theorem Ok.strOk {n : Nat} {x : Str} (h : Ok n x) : PyData.strOk x = true := by
  unfold PyData.strOk
  rw [← Array.all_toList]
  rw [List.all_eq_true]
  intro c hc
  have := h.2 c hc
  first
    | (simp; omega)
    | trace_state
theorem sep_ok {b : Nat} (hb : b < 256) : (⟨#[b]⟩ : Str).cps.all (· < 256) = true := by simp [hb]
theorem Ok.split {n b : Nat} (hb : b < 256) {x : Str} (h : Ok n x) : ∀ p ∈ Txt.split x ⟨#[b]⟩, Ok n p := fun p hp =>
  ⟨Nat.le_trans (split_len (by simp [tl]) (sep_ok hb) p hp) h.1, fun c hc => h.2 c (split_mem (by simp [tl]) (sep_ok hb) p hp c hc)⟩
def St (c : Nat) (st : List D) : Prop := ∃ a b k : Int, st = [.int a, .int b, .int k] ∧ 0 ≤ a ∧ 0 ≤ b ∧ b < 2147483647 ∧ 0 ≤ k ∧ k ≤ c
theorem St.mono {c c' : Nat} {st : List D} (h : St c st) (k : c ≤ c') : St c' st := by
  obtain ⟨a, b, k', e, h1, h2, h3, h4, h5⟩ := h
  exact ⟨a, b, k', e, h1, h2, h3, h4, by omega⟩
/-- an index within -/
theorem atI_lt {α : Type} {xs : List α} {i : Int} (h0 : 0 ≤ i) (h1 : i < xs.length) : ∃ x, atI xs i = some x ∧ x ∈ xs := by
  have hlt : i.toNat < xs.length := by omega
  refine ⟨xs[i.toNat], ?_, List.getElem_mem hlt⟩
  unfold atI ixN
  rw [if_pos h0, if_pos h1]
  simp [hlt]
theorem bx_ix_in {xs : List D} {i : Int} {Q : D → Prop} (h0 : 0 ≤ i) (h1 : i < xs.length) (h : ∀ d ∈ xs, Q d) : ∃ c, dIx (.list xs) (.int i) = some c ∧ Q c := by
  obtain ⟨d, e, m⟩ := atI_lt h0 h1
  exact bx_ix_lst e (h d m)
theorem bx_ix_sgn {x : Str} {n : Nat} {i : Int} {Q : D → Prop} (hx : Ok n x) (hn : n ≤ 16777216) (h0 : 0 ≤ i) (h1 : i < x.length) (h : ∀ c ∈ tl x, Q (.str ⟨#[c]⟩)) : ∃ c, dIx (.str x) (.int i) = some c ∧ Q c := by
  obtain ⟨d, e, m⟩ := atI_lt (xs := tl x) h0 (by rw [← len_tl]; exact h1)
  exact bx_ix_str (hx.line hn) e (h d m)
end Dn
namespace Dn
open PySem PySem.Spec PyProof.Rows L2 TL
def abc : Str := "abcdefghijklmnopqrstuvwxyz"
theorem abc_len : abc.length = 26 := by decide
theorem abc_mem : ∀ c ∈ tl abc, 97 ≤ c ∧ c ≤ 122 := by decide
theorem abc_ok : Ok 26 abc := Ok.lit _ _ (by decide)
def Lt (s : Str) : Prop := ∃ c, s = ⟨#[c]⟩ ∧ 97 ≤ c ∧ c ≤ 122
theorem Lt.ok {s : Str} (h : Lt s) : Ok 1 s := by
  obtain ⟨c, rfl, h1, h2⟩ := h
  exact Ok.one (by omega)
def Nm (x : Str) : Prop := 2 ≤ x.length ∧ x.length ≤ 8 ∧ (∀ c ∈ tl x, 97 ≤ c ∧ c ≤ 122) ∧ (tl x).head? = some 113
theorem Nm.ok {x : Str} (h : Nm x) : Ok 8 x := ⟨h.2.1, fun c hc => by have := h.2.2.1 c hc; omega⟩
theorem ix_abc {i : Int} {Q : D → Prop} (h0 : 0 ≤ i) (h1 : i < 26) (h : ∀ s, Lt s → Q (.str s)) : ∃ c, dIx (.str abc) (.int i) = some c ∧ Q c :=
  bx_ix_sgn abc_ok (by decide) h0 (by rw [abc_len]; exact h1) fun c hc => h _ ⟨c, rfl, abc_mem c hc⟩
theorem ixN_in {n : Nat} {i : Int} (h0 : 0 ≤ i) (h1 : i < n) : ixN n i = some i.toNat := by
  unfold ixN
  rw [if_pos h0, if_pos h1]
theorem rngD_at {a : Int} {n i : Nat} {d : D} (h : (rngD a n)[i]? = some d) : d = .int (a + i) ∧ i < n := by
  unfold rngD at h
  rw [List.getElem?_map] at h
  cases q : (List.range n)[i]? with
  | none => rw [q] at h; cases h
  | some k =>
    rw [q] at h
    have hk := List.getElem?_range (n := n) (i := i)
    by_cases hi : i < n
    · rw [List.getElem?_range hi] at q
      cases q
      cases h
      exact ⟨rfl, hi⟩
    · rw [List.getElem?_eq_none (by simp; omega)] at q
      cases q
theorem rngD_length {a : Int} {n : Nat} : (rngD a n).length = n := by simp [rngD]
theorem lt_flat : ∀ ss : List Str, (∀ s ∈ ss, Lt s) → (ss.flatMap tl).length = ss.length ∧ ∀ c ∈ ss.flatMap tl, 97 ≤ c ∧ c ≤ 122
  | [], _ => ⟨rfl, fun c hc => nomatch hc⟩
  | s :: r, h => by
    obtain ⟨c, rfl, h1, h2⟩ := h s List.mem_cons_self
    obtain ⟨i1, i2⟩ := lt_flat r fun t ht => h t (List.mem_cons_of_mem _ ht)
    rw [List.flatMap_cons]
    refine ⟨by rw [List.length_append, i1]; simp [tl]; omega, fun d hd => ?_⟩
    rcases List.mem_append.mp hd with z | z
    · simp [tl] at z
      omega
    · exact i2 d z
theorem Nm.mk' {ss : List Str} {z : Str} (h : ∀ s ∈ ss, Lt s) (h1 : 1 ≤ ss.length) (h6 : ss.length ≤ 6) (hz : z = "" ∨ z = "z") : Nm ("q" ++ Txt.join "" ss ++ z) := by
  obtain ⟨i1, i2⟩ := lt_flat ss h
  have e : tl ("q" ++ Txt.join "" ss ++ z) = 113 :: ss.flatMap tl ++ tl z := by
    rw [tl_append, tl_append]
    have : Txt.join "" ss = Txt.join Str.empty ss := rfl
    rw [this, tl_join]
    rfl
  have zl : (tl z).length ≤ 1 ∧ ∀ c ∈ tl z, 97 ≤ c ∧ c ≤ 122 := by
    rcases hz with rfl | rfl
    · exact ⟨by decide, by decide⟩
    · exact ⟨by decide, by decide⟩
  refine ⟨?_, ?_, fun c hc => ?_, ?_⟩
  · rw [len_tl, e, List.length_append, List.length_cons, i1]
    omega
  · rw [len_tl, e, List.length_append, List.length_cons, i1]
    omega
  · rw [e] at hc
    rcases List.mem_append.mp hc with q | q
    · rcases List.mem_cons.mp q with q | q
      · omega
      · exact i2 c q
    · exact zl.2 c q
  · rw [e]
    rfl
end Dn
namespace Ds
open PySem PySem.Spec PyProof.Rows L2 Dn
inductive All2 {α β : Type} (R : α → β → Prop) : List α → List β → Prop where
  | nil : All2 R [] []
  | cons {a : α} {b : β} {as : List α} {bs : List β} : R a b → All2 R as bs → All2 R (a :: as) (b :: bs)
namespace All2
variable {α β : Type} {R S : α → β → Prop}
theorem imp (k : ∀ a b, R a b → S a b) : ∀ {as : List α} {bs : List β}, All2 R as bs → All2 S as bs
  | _, _, .nil => .nil
  | _, _, .cons h t => .cons (k _ _ h) (imp k t)
theorem length : ∀ {as : List α} {bs : List β}, All2 R as bs → as.length = bs.length
  | _, _, .nil => rfl
  | _, _, .cons _ t => by rw [List.length_cons, List.length_cons, length t]
theorem get : ∀ {as : List α} {bs : List β} {i : Nat} {b : β}, All2 R as bs → bs[i]? = some b → ∃ a, as[i]? = some a ∧ R a b
  | _, _, i, d, .nil, e => by simp at e
  | _, _, 0, d, .cons h _, e => by simp at e; subst e; exact ⟨_, rfl, h⟩
  | _, _, i + 1, d, .cons _ t, e => by
    obtain ⟨v, h1, h2⟩ := get (i := i) t (by simpa using e)
    exact ⟨v, by simpa using h1, h2⟩
theorem append : ∀ {as as' : List α} {bs bs' : List β}, All2 R as bs → All2 R as' bs' → All2 R (as ++ as') (bs ++ bs')
  | _, _, _, _, .nil, s => s
  | _, _, _, _, .cons h t, s => .cons h (append t s)
theorem snoc {as : List α} {bs : List β} {a : α} {b : β} (h : All2 R as bs) (r : R a b) : All2 R (as ++ [a]) (bs ++ [b]) := h.append (.cons r .nil)
theorem set {a : α} {b : β} (r : R a b) : ∀ {as : List α} {bs : List β} (i : Nat), All2 R as bs → All2 R (as.set i a) (bs.set i b)
  | _, _, _, .nil => .nil
  | _, _, 0, .cons _ t => .cons r t
  | _, _, i + 1, .cons h t => .cons h (set r i t)
theorem erase : ∀ {as : List α} {bs : List β} (i : Nat), All2 R as bs → All2 R (as.eraseIdx i) (bs.eraseIdx i)
  | _, _, _, .nil => .nil
  | _, _, 0, .cons _ t => t
  | _, _, i + 1, .cons h t => .cons h (erase i t)
theorem take : ∀ {as : List α} {bs : List β} (n : Nat), All2 R as bs → All2 R (as.take n) (bs.take n)
  | _, _, 0, _ => .nil
  | _, _, _ + 1, .nil => .nil
  | _, _, n + 1, .cons h t => .cons h (take n t)
theorem drop : ∀ {as : List α} {bs : List β} (n : Nat), All2 R as bs → All2 R (as.drop n) (bs.drop n)
  | _, _, 0, h => h
  | _, _, _ + 1, .nil => .nil
  | _, _, n + 1, .cons _ t => drop n t
theorem imp_mem : ∀ {as : List α} {bs : List β}, All2 R as bs → (∀ a b, b ∈ bs → R a b → S a b) → All2 S as bs
  | _, _, .nil, _ => .nil
  | _, _, .cons h t, k => .cons (k _ _ List.mem_cons_self h) (imp_mem t fun a b m => k a b (List.mem_cons_of_mem _ m))
end All2
theorem nodup_at {α : Type} {a : α} : ∀ {l : List α} {i j : Nat}, l.Nodup → l[i]? = some a → l[j]? = some a → i = j
  | [], i, j, _, h, _ => by simp at h
  | b :: l, 0, 0, _, _, _ => rfl
  | b :: l, 0, j + 1, n, h, h' => by
    have e : b = a := by simpa using h
    subst e
    exact absurd (List.mem_of_getElem? (l := l) (i := j) (by simpa using h')) (List.nodup_cons.mp n).1
  | b :: l, i + 1, 0, n, h, h' => by
    have e : b = a := by simpa using h'
    subst e
    exact absurd (List.mem_of_getElem? (l := l) (i := i) (by simpa using h)) (List.nodup_cons.mp n).1
  | b :: l, i + 1, j + 1, n, h, h' => by
    rw [nodup_at (List.nodup_cons.mp n).2 (i := i) (j := j) (by simpa using h) (by simpa using h')]
/-- what a name, an item, a field holds: nothing said, data, a thing of the store -/
inductive Cl where
  | no
  | sh (d : D)
  | lo (l : Nat)
/-- things that change -/
inductive Ob where
  | gone
  | lst (xs : List Cl)
  | dk (kvs : List (Key × Cl))
  | dt (kvs : List (List Key × Cl))
  | ft (kvs : List (List Key × Cl))
  | ins (c : Str) (fs : List (Str × Cl))
def Ob.live : Ob → Bool
  | .gone => false
  | .ft _ => false
  | _ => true
structure Sx where
  e : List Cl
  s : List Ob
inductive Res (α : Type) where
  | ok (a : α) (x : Sx)
  | exc (y : Exn) (x : Sx)
  | bad
abbrev M (α : Type) := Sx → Res α
def mPure {α : Type} (a : α) : M α := fun x => .ok a x
def mBind {α β : Type} (m : M α) (f : α → M β) : M β := fun x => match m x with
  | .ok a x' => f a x'
  | .exc y x' => .exc y x'
  | .bad => .bad
def mOpt {α : Type} (o : Option α) : M α := fun x => match o with
  | some a => .ok a x
  | none => .bad
/-- where the store's things lie, and what never changes -/
structure Gh where
  r : List Addr
  h : Hp
structure Le (g g' : Gh) : Prop where
  r : ∀ (l : Nat) (a : Addr), g.r[l]? = some a → g'.r[l]? = some a
  h : Ex g.h g'.h
theorem Le.refl (g : Gh) : Le g g := ⟨fun _ _ h => h, Ex.refl _⟩
theorem Le.trans {g g1 g2 : Gh} (a : Le g g1) (b : Le g1 g2) : Le g g2 := ⟨fun l x h => b.r l x (a.r l x h), a.h.trans b.h⟩
inductive CR (K : Frag) (g : Gh) : V → Cl → Prop where
  | sh {v : V} {d : D} : Rp K g.h v d → CR K g v (.sh d)
  | lo {l : Nat} {a : Addr} : g.r[l]? = some a → CR K g (.ref a) (.lo l)
def clsA (K : Frag) (c : Str) : Option Addr := match PySem.W.nsIn K mainGlobals c with
  | some (some (.ref a)) => some a
  | _ => none
inductive ObR (K : Frag) (g : Gh) : Ob → HO → Prop where
  | lst {xs : List Cl} {vs : List V} : All2 (CR K g) vs xs → ObR K g (.lst xs) (.lst vs)
  | dk {xs : List (Key × Cl)} {vs : List (Key × V)} : All2 (fun p q => p.1 = q.1 ∧ CR K g p.2 q.2) vs xs → ObR K g (.dk xs) (.dK vs)
  | dt {xs : List (List Key × Cl)} {vs : List (List Key × V)} : All2 (fun p q => p.1 = q.1 ∧ CR K g p.2 q.2) vs xs → ObR K g (.dt xs) (.dT vs)
  | ins {c : Str} {C dx : Addr} {xs : List (Str × Cl)} {vs : List (Str × V)} : clsA K c = some C → All2 (fun p q => p.1 = q.1 ∧ CR K g p.2 q.2) vs xs → ObR K g (.ins c xs) (.ins C dx vs)
section
variable {K : Frag} {g g' : Gh}
theorem CR.le (e : Le g g') : ∀ {v : V} {c : Cl}, CR K g v c → CR K g' v c
  | _, _, .sh h => .sh (h.ex e.h)
  | _, _, .lo h => .lo (e.r _ _ h)
theorem CRs.le (e : Le g g') {vs : List V} {cs : List Cl} (h : All2 (CR K g) vs cs) : All2 (CR K g') vs cs := h.imp fun _ _ => CR.le e
theorem ObR.le (e : Le g g') : ∀ {o : Ob} {u : HO}, ObR K g o u → ObR K g' o u
  | _, _, .lst h => .lst (h.imp fun _ _ => CR.le e)
  | _, _, .dk h => .dk (h.imp fun _ _ h => ⟨h.1, h.2.le e⟩)
  | _, _, .dt h => .dt (h.imp fun _ _ h => ⟨h.1, h.2.le e⟩)
  | _, _, .ins c h => .ins c (h.imp fun _ _ h => ⟨h.1, h.2.le e⟩)
end
/-- slots, store and heap agree; G: what others hold -/
structure RE (K : Frag) (G : Hp) (g : Gh) (H : Hp) (σ : L2.St) (δ : Sx) : Prop where
  ex : Ex g.h H
  fg : ∀ a o, G a = some o → H a = some o ∧ g.h a = none ∧ a ∉ g.r
  len : σ.length = δ.e.length
  rl : g.r.length = δ.s.length
  sl : ∀ (i : Nat) (c : Cl), δ.e[i]? = some c → c ≠ .no → ∃ v : V, σ[i]? = some (some v) ∧ CR K g v c
  ob : ∀ (l : Nat) (o : Ob), δ.s[l]? = some o → o.live = true → ∃ (a : Addr) (u : HO), g.r[l]? = some a ∧ H a = some u ∧ ObR K g o u ∧ g.h a = none
  nd : g.r.Nodup
  al : ∀ a ∈ g.r, H a ≠ none
  nt : ∀ a xs, H a = some (.tup xs) → a ∉ g.r ∧ G a = none
  fz : ∀ (l : Nat) (kvs : List (List Key × Cl)), δ.s[l]? = some (.ft kvs) → ∃ (a : Addr) (o : Obj) (vs : List (List Key × V)), g.r[l]? = some a ∧ g.h a = some (.frz o (.dT vs)) ∧ All2 (fun p q => p.1 = q.1 ∧ CR K g p.2 q.2) vs kvs
/-- new stable things: fresh ones, or tuples that stand already -/
structure Gs (Hs H Hs' H' : Hp) : Prop where
  s : Ex Hs Hs'
  h : Ex H H'
  i : Ex Hs' H'
  f : ∀ a, H a ≠ none → Hs' a = Hs a ∨ ∃ ys, H a = some (.tup ys)
theorem Gs.of {Hs H Hs' H' : Hp} (g : Gr Hs H Hs' H') : Gs Hs H Hs' H' := ⟨g.s, g.h, g.i, fun a h => .inl (g.f a h)⟩
theorem Gs.trans {Hs H Hs' H' Hs2 H2 : Hp} (a : Gs Hs H Hs' H') (b : Gs Hs' H' Hs2 H2) : Gs Hs H Hs2 H2 := ⟨a.s.trans b.s, a.h.trans b.h, b.i, fun c hc => by
  cases q : H c with
  | none => exact absurd q hc
  | some o =>
    have q' := a.h c o q
    rcases a.f c hc with z | ⟨ys, z⟩
    · rcases b.f c (by rw [q']; simp) with w | ⟨ys, w⟩
      · exact .inl (w.trans z)
      · rw [q'] at w
        exact .inr ⟨ys, w⟩
    · rw [q] at z
      exact .inr ⟨ys, z⟩⟩
structure Grw (g : Gh) (H : Hp) (g' : Gh) (H' : Hp) : Prop where
  q : g'.r = g.r
  g : Gs g.h H g'.h H'
theorem Grw.le {g g' : Gh} {H H' : Hp} (a : Grw g H g' H') : Le g g' := ⟨fun l x h => by rw [a.q]; exact h, a.g.s⟩
theorem Grw.refl {g : Gh} {H : Hp} (e : Ex g.h H) : Grw g H g H := ⟨rfl, .of (.refl e)⟩
theorem Grw.new {g : Gh} {H : Hp} {p : Addr} {o : HO} (e : Ex g.h H) (h : H p = none) : Grw g H ⟨g.r, upd g.h p o⟩ (upd H p o) := ⟨rfl, .of (Gr.new e h)⟩
theorem Grw.of {g : Gh} {H Hs' H' : Hp} (a : Gr g.h H Hs' H') : Grw g H ⟨g.r, Hs'⟩ H' := ⟨rfl, .of a⟩
theorem Grw.ofS {g : Gh} {H Hs' H' : Hp} (a : Gs g.h H Hs' H') : Grw g H ⟨g.r, Hs'⟩ H' := ⟨rfl, a⟩
theorem Grw.trans {g g1 g2 : Gh} {H H1 H2 : Hp} (a : Grw g H g1 H1) (b : Grw g1 H1 g2 H2) : Grw g H g2 H2 := ⟨b.q.trans a.q, a.g.trans b.g⟩
section
variable {K : Frag} {G : Hp} {g g' : Gh} {H H' : Hp} {σ σ' : L2.St} {δ δ' : Sx} {e e' : List Cl} {s s' : List Ob}
theorem RE.grow (r : RE K G g H σ δ) (w : Grw g H g' H') : RE K G g' H' σ δ where
  ex := w.g.i
  fg := fun a o q => by
    obtain ⟨h1, h2, h3⟩ := r.fg a o q
    refine ⟨w.g.h a o h1, ?_, by rw [w.q]; exact h3⟩
    rcases w.g.f a (by rw [h1]; simp) with z | ⟨ys, z⟩
    · rw [z, h2]
    · rw [(r.nt a ys z).2] at q; cases q
  len := r.len
  rl := by rw [w.q]; exact r.rl
  sl := fun i c q hc => by
    obtain ⟨v, h1, h2⟩ := r.sl i c q hc
    exact ⟨v, h1, h2.le w.le⟩
  ob := fun l o q hl => by
    obtain ⟨a, u, h1, h2, h3, h4⟩ := r.ob l o q hl
    refine ⟨a, u, by rw [w.q]; exact h1, w.g.h a u h2, h3.le w.le, ?_⟩
    rcases w.g.f a (by rw [h2]; simp) with z | ⟨ys, z⟩
    · rw [z, h4]
    · exact absurd (List.mem_of_getElem? h1) (r.nt a ys z).1
  nd := by rw [w.q]; exact r.nd
  al := fun a ha => by
    rw [w.q] at ha
    have := r.al a ha
    cases q : H a with
    | none => exact absurd q this
    | some o => rw [w.g.h a o q]; simp
  nt := fun a xs q => by
    refine ⟨fun ha => ?_, ?_⟩
    · rw [w.q] at ha
      cases z : H a with
      | none => exact r.al a ha z
      | some o =>
        have := w.g.h a o z
        rw [q] at this
        cases this
        exact (r.nt a xs z).1 ha
    · cases z : G a with
      | none => rfl
      | some o =>
        have h1 := (r.fg a o z).1
        have := w.g.h a o h1
        rw [q] at this
        cases this
        rw [(r.nt a xs h1).2] at z
        cases z
  fz := fun l kvs q => by
    obtain ⟨a, o, vs, h1, h2, h3⟩ := r.fz l kvs q
    exact ⟨a, o, vs, by rw [w.q]; exact h1, w.g.s _ _ h2, h3.imp fun _ _ z => ⟨z.1, z.2.le w.le⟩⟩
/-- other slots, the same store -/
theorem RE.slots (r : RE K G g H σ δ) {σ' : L2.St} {e' : List Cl} (hl : σ'.length = e'.length) (h : ∀ (i : Nat) (c : Cl), e'[i]? = some c → c ≠ .no → ∃ v : V, σ'[i]? = some (some v) ∧ CR K g v c) : RE K G g H σ' ⟨e', δ.s⟩ where
  ex := r.ex
  fg := r.fg
  len := hl
  rl := r.rl
  sl := h
  ob := r.ob
  nd := r.nd
  al := r.al
  nt := r.nt
  fz := r.fz
/-- a slot that says nothing may hold anything -/
theorem RE.sig (r : RE K G g H σ δ) (hl : σ'.length = σ.length) (h : ∀ (i : Nat) (c : Cl), δ.e[i]? = some c → c ≠ .no → σ'[i]? = σ[i]?) : RE K G g H σ' δ :=
  r.slots (σ' := σ') (e' := δ.e) (hl.trans r.len) fun i c q hc => by rw [h i c q hc]; exact r.sl i c q hc
/-- less is said -/
theorem RE.less (r : RE K G g H σ δ) {e' : List Cl} (hl : e'.length = δ.e.length) (h : ∀ (i : Nat) (c : Cl), e'[i]? = some c → c = Cl.no ∨ δ.e[i]? = some c) : RE K G g H σ ⟨e', δ.s⟩ :=
  r.slots (r.len.trans hl.symm) fun i c q hc => r.sl i c ((h i c q).resolve_left hc) hc
theorem RE.set {v : V} {c : Cl} {i : Nat} (r : RE K G g H σ δ) (h : CR K g v c) : RE K G g H (σ.set i (some v)) ⟨δ.e.set i c, δ.s⟩ :=
  r.slots (by rw [List.length_set, List.length_set]; exact r.len) fun j d q hd => by
    rcases setGet q with ⟨rfl, z⟩ | ⟨hj, z⟩
    · subst z
      have hl := set_lt q
      exact ⟨v, by rw [List.getElem?_set_self (by rw [r.len]; exact hl)], h⟩
    · rw [List.getElem?_set_ne (Ne.symm hj)]
      exact r.sl j d z hd
/-- only the store and the heap -/
theorem RE.bare (r : RE K G g H σ δ) : RE K G g H [] ⟨[], δ.s⟩ := r.slots rfl fun i c q => by simp at q
theorem RE.lift (r : RE K G g H σ δ) (e : Le g g') (r' : RE K G g' H' σ' δ') : RE K G g' H' σ ⟨δ.e, δ'.s⟩ :=
  r'.slots r.len fun i c q hc => by
    obtain ⟨v, h1, h2⟩ := r.sl i c q hc
    exact ⟨v, h1, h2.le e⟩
theorem RE.nin (r : RE K G g H σ δ) {p : Addr} (h : H p = none) : p ∉ g.r := fun z => r.al p z h
/-- new things that no name reaches -/
theorem RE.newH (r : RE K G g H σ δ) (e : Ex H H') : RE K G g H' σ δ := r.grow ⟨rfl, Ex.refl _, e, r.ex.trans e, fun _ _ => .inl rfl⟩
/-- a thing of the store changes in place -/
theorem RE.write {l : Nat} {a : Addr} {o o' : Ob} {u : HO} (r : RE K G g H σ δ) (hl : δ.s[l]? = some o) (hv : o.live = true) (ha : g.r[l]? = some a) (hu : ObR K g o' u) : RE K G g (upd H a u) σ ⟨δ.e, δ.s.set l o'⟩ := by
  obtain ⟨b, w, h1, h2, h3, h4⟩ := r.ob l o hl hv
  rw [ha] at h1
  obtain rfl : a = b := Option.some.inj h1
  have hlt : l < δ.s.length := (List.getElem?_eq_some_iff.mp hl).1
  have inj : ∀ {l' : Nat}, g.r[l']? = some a → l' = l := fun {l'} q => by
    exact nodup_at r.nd q ha
  exact {
    ex := fun b v q => by
      have hb : b ≠ a := fun z => by rw [z, h4] at q; cases q
      rw [upd_ne hb]; exact r.ex b v q
    fg := fun b v q => by
      obtain ⟨f1, f2, f3⟩ := r.fg b v q
      have hb : b ≠ a := fun z => f3 (z ▸ List.mem_of_getElem? ha)
      exact ⟨by rw [upd_ne hb]; exact f1, f2, f3⟩
    len := r.len
    rl := by rw [r.rl]; simp
    sl := r.sl
    ob := fun l' o1 q hv1 => by
      rcases setGet q with ⟨rfl, z⟩ | ⟨hj, z⟩
      · subst z; exact ⟨a, u, ha, upd_same, hu, h4⟩
      · obtain ⟨b, v, f1, f2, f3, f4⟩ := r.ob l' o1 z hv1
        have hb : b ≠ a := fun z => hj (inj (z ▸ f1))
        exact ⟨b, v, f1, by rw [upd_ne hb]; exact f2, f3, f4⟩
    nd := r.nd
    al := fun b hb => by
      by_cases hba : b = a
      · subst hba; rw [upd_same]; simp
      · rw [upd_ne hba]; exact r.al b hb
    nt := fun b xs q => by
      by_cases hba : b = a
      · subst hba
        rw [upd_same] at q
        cases q
        cases hu
      · rw [upd_ne hba] at q; exact r.nt b xs q
    fz := fun l' kvs q => by
      rcases setGet q with ⟨rfl, z⟩ | ⟨hj, z⟩
      · subst z; cases hu
      · exact r.fz l' kvs z }
/-- a fresh list that nothing reaches yet -/
structure FrO (K : Frag) (G : Hp) (g : Gh) (H : Hp) (a : Addr) (xs : List Cl) : Prop where
  at_ : ∃ vs, H a = some (.lst vs) ∧ All2 (CR K g) vs xs
  hs : g.h a = none
  gg : G a = none
  nr : a ∉ g.r
/-- any fresh thing -/
structure Fro (K : Frag) (G : Hp) (g : Gh) (H : Hp) (a : Addr) (o : Ob) : Prop where
  at_ : ∃ u, H a = some u ∧ ObR K g o u
  hs : g.h a = none
  gg : G a = none
  nr : a ∉ g.r
theorem FrO.fro {a : Addr} {xs : List Cl} (f : FrO K G g H a xs) : Fro K G g H a (.lst xs) := by
  obtain ⟨⟨vs, h1, h2⟩, b, c, d⟩ := f
  exact ⟨⟨_, h1, .lst h2⟩, b, c, d⟩
/-- .. becomes one of the store's -/
theorem RE.alloc {a : Addr} {o : Ob} (r : RE K G g H σ δ) (f : Fro K G g H a o) : Le g ⟨g.r ++ [a], g.h⟩ ∧ RE K G ⟨g.r ++ [a], g.h⟩ H σ ⟨δ.e, δ.s ++ [o]⟩ := by
  have le : Le g ⟨g.r ++ [a], g.h⟩ := ⟨fun l b h => by
    have := (List.getElem?_eq_some_iff.mp h).1
    show (g.r ++ [a])[l]? = some b
    rw [List.getElem?_append_left this]; exact h, Ex.refl _⟩
  obtain ⟨⟨u, h1, h2⟩, b, c, d⟩ := f
  refine ⟨le, ?_⟩
  exact {
    ex := r.ex
    fg := fun b v q => by
      obtain ⟨f1, f2, f3⟩ := r.fg b v q
      refine ⟨f1, f2, fun z => ?_⟩
      rcases List.mem_append.mp z with z | z
      · exact f3 z
      · simp at z; subst z; rw [c] at q; cases q
    len := r.len
    rl := by simp [r.rl]
    sl := fun i k q hk => by
      obtain ⟨v, f1, f2⟩ := r.sl i k q hk
      exact ⟨v, f1, f2.le le⟩
    ob := fun l o1 q hv1 => by
      by_cases hl : l < δ.s.length
      · rw [List.getElem?_append_left hl] at q
        obtain ⟨b, v, f1, f2, f3, f4⟩ := r.ob l o1 q hv1
        exact ⟨b, v, le.r _ _ f1, f2, f3.le le, f4⟩
      · have hl' : l = δ.s.length := by
          have := (List.getElem?_eq_some_iff.mp q).1
          simp at this
          omega
        subst hl'
        rw [List.getElem?_append_right (Nat.le_refl _), Nat.sub_self] at q
        have q : o = o1 := Option.some.inj q
        subst q
        refine ⟨a, u, ?_, h1, h2.le le, b⟩
        show (g.r ++ [a])[δ.s.length]? = some a
        rw [← r.rl, List.getElem?_append_right (Nat.le_refl _), Nat.sub_self]
        rfl
    nd := List.nodup_append.mpr ⟨r.nd, by simp, fun x hx y hy => by
      simp at hy; subst hy
      exact fun z => d (z ▸ hx)⟩
    al := fun b hb => by
      rcases List.mem_append.mp hb with z | z
      · exact r.al b z
      · simp at z; subst z; rw [h1]; simp
    nt := fun b xs q => by
      have hba : b ≠ a := fun z => by
        subst z
        rw [h1] at q
        cases q
        cases h2
      obtain ⟨k1, k2⟩ := r.nt b xs q
      refine ⟨fun z => ?_, k2⟩
      rcases List.mem_append.mp z with z | z
      · exact k1 z
      · simp at z; exact hba z
    fz := fun l kvs q => by
      by_cases hl : l < δ.s.length
      · rw [List.getElem?_append_left hl] at q
        obtain ⟨b, o', vs, f1, f2, f3⟩ := r.fz l kvs q
        exact ⟨b, o', vs, le.r _ _ f1, f2, f3.imp fun _ _ z => ⟨z.1, z.2.le le⟩⟩
      · have hl' : l = δ.s.length := by
          have := (List.getElem?_eq_some_iff.mp q).1
          simp at this
          omega
        subst hl'
        rw [List.getElem?_append_right (Nat.le_refl _), Nat.sub_self] at q
        have q : o = .ft kvs := Option.some.inj q
        subst q
        cases h2 }
/-- all of them data -/
def shL : List Cl → Option (List D)
  | [] => some []
  | .sh d :: cs => (shL cs).map (d :: ·)
  | _ :: _ => none
theorem shL_rps : ∀ {vs : List V} {cs : List Cl} {ds : List D}, All2 (CR K g) vs cs → shL cs = some ds → Rps K g.h vs ds
  | _, _, ds, .nil, h => by obtain rfl := Option.some.inj h; exact .nil
  | _, _, ds, .cons (b := .sh d) (bs := cs) (.sh r) t, h => by
    unfold shL at h
    cases z : shL cs with
    | none => rw [z] at h; simp at h
    | some es =>
      rw [z] at h
      have e : d :: es = ds := by simpa using h
      subst e
      exact .cons r (shL_rps t z)
  | _, _, ds, .cons (.lo r) t, h => by simp [shL] at h
theorem rps_cr : ∀ {vs : List V} {ds : List D}, Rps K g.h vs ds → All2 (CR K g) vs (ds.map Cl.sh)
  | _, _, .nil => .nil
  | _, _, .cons h t => .cons (.sh h) (rps_cr t)
theorem ex_upd' {p : Addr} {u : HO} {Hs : Hp} (e : Ex Hs H) (h : H p = some u) : Ex (upd Hs p u) H := fun c w z => by
  by_cases hc : c = p
  · subst hc; rw [upd_same] at z; cases z; exact h
  · rw [upd_ne hc] at z; exact e c w z
/-- a fresh list becomes data -/
theorem RE.freeze {a : Addr} {xs : List Cl} {ds : List D} (r : RE K G g H σ δ) (f : FrO K G g H a xs) (hd : shL xs = some ds) : ∃ g', Le g g' ∧ g'.r = g.r ∧ RE K G g' H σ δ ∧ Rp K g'.h (.ref a) (.list ds) := by
  obtain ⟨vs, h1, h2⟩ := f.at_
  have e : Ex g.h (upd g.h a (.lst vs)) := ex_new f.hs
  have le : Le g ⟨g.r, upd g.h a (.lst vs)⟩ := ⟨fun _ _ h => h, e⟩
  refine ⟨⟨g.r, upd g.h a (.lst vs)⟩, le, rfl, ?_, .lst (SqL.of upd_same) ((shL_rps h2 hd).ex e)⟩
  exact {
    ex := ex_upd' r.ex h1
    fg := fun b o q => by
      obtain ⟨f1, f2, f3⟩ := r.fg b o q
      have hb : b ≠ a := fun z => by rw [z, f.gg] at q; cases q
      exact ⟨f1, by show upd g.h a _ b = none; rw [upd_ne hb]; exact f2, f3⟩
    len := r.len
    rl := r.rl
    sl := fun i c q hc => by
      obtain ⟨v, q1, q2⟩ := r.sl i c q hc
      exact ⟨v, q1, q2.le le⟩
    ob := fun l o q hl => by
      obtain ⟨b, u, q1, q2, q3, q4⟩ := r.ob l o q hl
      have hb : b ≠ a := fun z => f.nr (z ▸ List.mem_of_getElem? q1)
      exact ⟨b, u, q1, q2, q3.le le, by show upd g.h a _ b = none; rw [upd_ne hb]; exact q4⟩
    nd := r.nd
    al := r.al
    nt := r.nt
    fz := fun l kvs q => by
      obtain ⟨b, o', vs', f1, f2, f3⟩ := r.fz l kvs q
      exact ⟨b, o', vs', f1, e _ _ f2, f3.imp fun _ _ z => ⟨z.1, z.2.le le⟩⟩ }
end
end Ds
namespace Ds
open PySem PySem.Spec PyProof.Rows L2 Dn
def Post {α : Type} (K : Frag) (E : XQ) (G : Hp) (g : Gh) (σ : L2.St) (r : Res α) (Q : α → Gh → Hp → Sx → Prop) : Prop :=
  match r with
  | .ok a δ' => ∀ g' H', Le g g' → RE K G g' H' σ δ' → Q a g' H' δ'
  | .exc x δ' => ∀ g' H', Le g g' → RE K G g' H' σ δ' → E x σ H'
  | .bad => False
theorem Post.ex {α : Type} {K : Frag} {E : XQ} {G : Hp} {g g1 : Gh} {σ : L2.St} {r : Res α} {Q : α → Gh → Hp → Sx → Prop} (h : Post K E G g σ r Q) (e : Le g g1) : Post K E G g1 σ r Q := by
  cases r with
  | ok a δ' => exact fun g' H' e' r => h g' H' (e.trans e') r
  | exc x δ' => exact fun g' H' e' r => h g' H' (e.trans e') r
  | bad => exact h
theorem Post.of {α : Type} {K : Frag} {E : XQ} {G : Hp} {g : Gh} {H : Hp} {σ : L2.St} {a : α} {δ : Sx} {Q : α → Gh → Hp → Sx → Prop} (h : Post K E G g σ (.ok a δ) Q) (r : RE K G g H σ δ) : Q a g H δ := h g H (Le.refl _) r
theorem Post.grow {α : Type} {K : Frag} {E : XQ} {G : Hp} {g g' : Gh} {H H' : Hp} {σ : L2.St} {a : α} {δ : Sx} {Q : α → Gh → Hp → Sx → Prop} (h : Post K E G g σ (.ok a δ) Q) (r : RE K G g H σ δ) (w : Grw g H g' H') : Q a g' H' δ :=
  h g' H' w.le (r.grow w)
theorem Post.mono {α : Type} {K : Frag} {E : XQ} {G : Hp} {g : Gh} {σ : L2.St} {r : Res α} {Q Q' : α → Gh → Hp → Sx → Prop} (h : Post K E G g σ r Q) (k : ∀ a g' H' δ', Q a g' H' δ' → Q' a g' H' δ') : Post K E G g σ r Q' := by
  cases r with
  | ok a δ' => exact fun g' H' e r => k _ _ _ _ (h g' H' e r)
  | exc x δ' => exact h
  | bad => exact h
def Cf {α : Type} (K : Frag) (E : XQ) (m : M α) (σ : L2.St) (H : Hp) (Q : Hp → α → Gh → Hp → Sx → Prop) : Prop :=
  ∃ (G : Hp) (g : Gh) (δ : Sx), RE K G g H σ δ ∧ Post K E G g σ (m δ) (Q G)
/-- data -/
def tOf (K : Frag) (E : XQ) (m : M D) : TE := fun σ H Q => Cf K E m σ H fun _ d g' H' _ => ∀ v, Rp K g'.h v d → Q v H'
def tOfT (K : Frag) (E : XQ) (m : M Bool) : TT := fun σ H Q => Cf K E m σ H fun _ b _ H' _ => Q b H'
/-- a thing of the store -/
def tOfL (K : Frag) (E : XQ) (m : M Nat) : TE := fun σ H Q => Cf K E m σ H fun _ l g' H' _ => ∀ a, g'.r[l]? = some a → Q (.ref a) H'
/-- either -/
def tOfC (K : Frag) (E : XQ) (m : M Cl) : TE := fun σ H Q => Cf K E m σ H fun _ c g' H' _ => ∀ v, CR K g' v c → Q v H'
/-- a fresh list -/
def tOfO (K : Frag) (E : XQ) (m : M (List Cl)) : TE := fun σ H Q => Cf K E m σ H fun G xs g' H' _ => ∀ a, FrO K G g' H' a xs → Q (.ref a) H'
def tOfA (K : Frag) (E : XQ) (m : M (List Cl)) : TA := fun σ H Q => Cf K E m σ H fun _ cs g' H' _ => ∀ vs, All2 (CR K g') vs cs → Q vs H'
section
variable {K : Frag} {E : XQ} {G : Hp} {g : Gh} {H : Hp} {σ : L2.St} {δ : Sx}
theorem Cf.step {α β : Type} {ma : M α} {f : α → M β} {QQ : β → Gh → Hp → Sx → Prop} {R : Hp → α → Gh → Hp → Sx → Prop} (re : RE K G g H σ δ) (po : Post K E G g σ (mBind ma f δ) QQ)
    (k : ∀ a g1 H1 δ1, Le g g1 → RE K G g1 H1 σ δ1 → Post K E G g1 σ (f a δ1) QQ → R G a g1 H1 δ1) : Cf K E ma σ H R := by
  refine ⟨G, g, δ, re, ?_⟩
  unfold mBind at po
  cases h : ma δ with
  | ok a δ1 =>
    rw [h] at po
    exact fun g' H' e r => k a g' H' δ1 e r (Post.ex po e)
  | exc x δ1 =>
    rw [h] at po
    exact po
  | bad =>
    rw [h] at po
    exact po
theorem tOf.step {β : Type} {ma : M D} {f : D → M β} {QQ : β → Gh → Hp → Sx → Prop} {R : V → Hp → Prop} (re : RE K G g H σ δ) (po : Post K E G g σ (mBind ma f δ) QQ)
    (k : ∀ v d g1 H1 δ1, Le g g1 → RE K G g1 H1 σ δ1 → Rp K g1.h v d → Post K E G g1 σ (f d δ1) QQ → R v H1) : tOf K E ma σ H R :=
  Cf.step re po fun d g1 H1 δ1 e r p v rv => k v d g1 H1 δ1 e r rv p
theorem tOfT.step {β : Type} {ma : M Bool} {f : Bool → M β} {QQ : β → Gh → Hp → Sx → Prop} {R : Bool → Hp → Prop} (re : RE K G g H σ δ) (po : Post K E G g σ (mBind ma f δ) QQ)
    (k : ∀ b g1 H1 δ1, Le g g1 → RE K G g1 H1 σ δ1 → Post K E G g1 σ (f b δ1) QQ → R b H1) : tOfT K E ma σ H R :=
  Cf.step re po k
theorem tOfL.step {β : Type} {ma : M Nat} {f : Nat → M β} {QQ : β → Gh → Hp → Sx → Prop} {R : V → Hp → Prop} (re : RE K G g H σ δ) (po : Post K E G g σ (mBind ma f δ) QQ)
    (k : ∀ a l g1 H1 δ1, Le g g1 → RE K G g1 H1 σ δ1 → g1.r[l]? = some a → Post K E G g1 σ (f l δ1) QQ → R (.ref a) H1) : tOfL K E ma σ H R :=
  Cf.step re po fun l g1 H1 δ1 e r p a ha => k a l g1 H1 δ1 e r ha p
theorem tOfC.step {β : Type} {ma : M Cl} {f : Cl → M β} {QQ : β → Gh → Hp → Sx → Prop} {R : V → Hp → Prop} (re : RE K G g H σ δ) (po : Post K E G g σ (mBind ma f δ) QQ)
    (k : ∀ v c g1 H1 δ1, Le g g1 → RE K G g1 H1 σ δ1 → CR K g1 v c → Post K E G g1 σ (f c δ1) QQ → R v H1) : tOfC K E ma σ H R :=
  Cf.step re po fun c g1 H1 δ1 e r p v rv => k v c g1 H1 δ1 e r rv p
theorem tOfA.step {β : Type} {ma : M (List Cl)} {f : List Cl → M β} {QQ : β → Gh → Hp → Sx → Prop} {R : List V → Hp → Prop} (re : RE K G g H σ δ) (po : Post K E G g σ (mBind ma f δ) QQ)
    (k : ∀ vs cs g1 H1 δ1, Le g g1 → RE K G g1 H1 σ δ1 → All2 (CR K g1) vs cs → Post K E G g1 σ (f cs δ1) QQ → R vs H1) : tOfA K E ma σ H R :=
  Cf.step re po fun cs g1 H1 δ1 e r p vs rv => k vs cs g1 H1 δ1 e r rv p
theorem tOfO.step {β : Type} {ma : M (List Cl)} {f : List Cl → M β} {QQ : β → Gh → Hp → Sx → Prop} {R : V → Hp → Prop} (re : RE K G g H σ δ) (po : Post K E G g σ (mBind ma f δ) QQ)
    (k : ∀ a xs g1 H1 δ1, Le g g1 → RE K G g1 H1 σ δ1 → FrO K G g1 H1 a xs → Post K E G g1 σ (f xs δ1) QQ → R (.ref a) H1) : tOfO K E ma σ H R :=
  Cf.step re po fun xs g1 H1 δ1 e r p a fa => k a xs g1 H1 δ1 e r fa p
theorem Cf.last {α : Type} {ma : M α} {R : Hp → α → Gh → Hp → Sx → Prop} (re : RE K G g H σ δ) (po : Post K E G g σ (ma δ) (R G)) : Cf K E ma σ H R := ⟨G, g, δ, re, po⟩
theorem Post.opt {α : Type} {o : Option α} {QQ : α → Gh → Hp → Sx → Prop} (po : Post K E G g σ (mOpt o δ) QQ) : ∃ a, o = some a ∧ Post K E G g σ (.ok a δ) QQ := by
  unfold mOpt at po
  cases o with
  | none => exact po.elim
  | some a => exact ⟨a, rfl, po⟩
theorem Post.optB {α β : Type} {o : Option α} {f : α → M β} {QQ : β → Gh → Hp → Sx → Prop} (po : Post K E G g σ (mBind (mOpt o) f δ) QQ) : ∃ a, o = some a ∧ Post K E G g σ (f a δ) QQ := by
  cases o with
  | none => exact po.elim
  | some a => exact ⟨a, rfl, po⟩
end
section
variable {X : Cx} {E : XQ} {a b e : Expr} {pos : Pos} {ma mb m : M D}
def mCl (i : Nat) : M Cl := fun δ => match δ.e[i]? with
  | some (.sh d) => .ok (.sh d) δ
  | some (.lo l) => .ok (.lo l) δ
  | _ => .bad
def toD : Cl → Option D
  | .sh d => some d
  | _ => none
def toL : Cl → Option Nat
  | .lo l => some l
  | _ => none
def mVar (i : Nat) : M D := fun δ => match δ.e[i]? with
  | some (.sh d) => .ok d δ
  | _ => .bad
def mLV (i : Nat) : M Nat := fun δ => match δ.e[i]? with
  | some (.lo l) => .ok l δ
  | _ => .bad
theorem je_var {i : Nat} {x : Str} (hN : X.N[i]? = some x) (hv : Vis X.env.scope x) (hd : (x == ("__debug__" : Str)) = false := by decide) (hcd : (x == ("__classdict__" : Str)) = false := by decide) : PE X (.Name x pos) (tOf X.K E (mVar i)) :=
  pe_imp (pe_var hN hv hd hcd) fun σ H Q ⟨G, g, δ, re, po⟩ => by
    unfold mVar at po
    split at po
    · rename_i d hd
      obtain ⟨v, h1, h2⟩ := re.sl i _ hd (by simp)
      cases h2 with
      | sh h2 => exact ⟨v, h1, po g H (Le.refl _) re v h2⟩
    · exact po.elim
theorem jl_var {i : Nat} {x : Str} (hN : X.N[i]? = some x) (hv : Vis X.env.scope x) (hd : (x == ("__debug__" : Str)) = false := by decide) (hcd : (x == ("__classdict__" : Str)) = false := by decide) : PE X (.Name x pos) (tOfL X.K E (mLV i)) :=
  pe_imp (pe_var hN hv hd hcd) fun σ H Q ⟨G, g, δ, re, po⟩ => by
    unfold mLV at po
    split at po
    · rename_i d hd
      obtain ⟨v, h1, h2⟩ := re.sl i _ hd (by simp)
      cases h2 with
      | lo h2 => exact ⟨_, h1, po g H (Le.refl _) re _ h2⟩
    · exact po.elim
/-- data or a thing, as a cell -/
def mSh (m : M D) : M Cl := mBind m fun d => mPure (.sh d)
def mLo (m : M Nat) : M Cl := mBind m fun l => mPure (.lo l)
theorem jc_sh (h : PE X e (tOf X.K E m)) : PE X e (tOfC X.K E (mSh m)) :=
  pe_imp h fun σ H Q ⟨G, g, δ, re, po⟩ => tOf.step re po fun v d g1 H1 δ1 e1 re1 r1 po1 => Post.of po1 re1 v (.sh r1)
theorem jc_lo {m : M Nat} (h : PE X e (tOfL X.K E m)) : PE X e (tOfC X.K E (mLo m)) :=
  pe_imp h fun σ H Q ⟨G, g, δ, re, po⟩ => tOfL.step re po fun a l g1 H1 δ1 e1 re1 r1 po1 => Post.of po1 re1 _ (.lo r1)
def mD (m : M Cl) : M D := mBind m fun c => mOpt (toD c)
def mL (m : M Cl) : M Nat := mBind m fun c => mOpt (toL c)
theorem je_cell {m : M Cl} (h : PE X e (tOfC X.K E m)) : PE X e (tOf X.K E (mD m)) :=
  pe_imp h fun σ H Q ⟨G, g, δ, re, po⟩ => tOfC.step re po fun v c g1 H1 δ1 e1 re1 r1 po1 => by
    obtain ⟨d, hd, po2⟩ := Post.opt po1
    cases r1 with
    | sh r => cases hd; exact Post.of po2 re1 v r
    | lo r => cases hd
theorem jl_cell {m : M Cl} (h : PE X e (tOfC X.K E m)) : PE X e (tOfL X.K E (mL m)) :=
  pe_imp h fun σ H Q ⟨G, g, δ, re, po⟩ => tOfC.step re po fun v c g1 H1 δ1 e1 re1 r1 po1 => by
    obtain ⟨d, hd, po2⟩ := Post.opt po1
    cases r1 with
    | sh r => cases hd
    | lo r => cases hd; exact Post.of po2 re1 _ r
/-- a constant -/
def mC (d : D) : M D := mPure d
theorem je_c {t : TE} {d : D} {v : V} (h : PE X e (tC v)) (hv : ∀ H, Rp X.K H v d) : PE X e (tOf X.K E (mC d)) :=
  pe_imp h fun σ H Q ⟨G, g, δ, re, po⟩ => Post.of po re v (hv g.h)
theorem je_int {i : Int} {j pos} : PE X (.Constant (.int i) j pos) (tOf X.K E (mC (.int i))) := je_c (t := tC (.int i)) pe_int fun _ => .int i
theorem je_bl {i : Bool} {j pos} : PE X (.Constant (.bool i) j pos) (tOf X.K E (mC (.bool i))) := je_c (t := tC (.bl i)) pe_bl fun _ => .bl i
theorem je_str {x : Str} {j pos} : PE X (.Constant (.str x) j pos) (tOf X.K E (mC (.str x))) := je_c (t := tC (.str x)) pe_str fun _ => .str x
theorem je_glob {x : Str} {v : V} {u : Value} {d : D} (hg : Gl X x) (hm : X.mg x = some u) (r : RelV v u) (hv : ∀ H, Rp X.K H v d) (hd : (x == ("__debug__" : Str)) = false := by decide) : PE X (.Name x pos) (tOf X.K E (mC d)) := je_c (t := tC v) (pe_glob hg hm r hd) hv
def mBin (f : D → D → Option D) (ma mb : M D) : M D := mBind ma fun d => mBind mb fun e => mOpt (f d e)
theorem binS {r : R2} {f : D → D → Option D} (hr : OpS X.K r f) {σ : L2.St} {H : Hp} {Q : VK} (h : tOf X.K E (mBin f ma mb) σ H Q) : tOp r (tOf X.K E ma) (tOf X.K E mb) σ H Q := by
  obtain ⟨G, g, δ, re, po⟩ := h
  refine tOf.step re po fun x d g1 H1 δ1 e1 re1 r1 po1 => ?_
  refine tOf.step re1 po1 fun y e g2 H2 δ2 e2 re2 r2 po2 => ?_
  obtain ⟨c, hc, po3⟩ := Post.opt po2
  exact hr g2.h H2 x y d e c Q re2.ex (r1.ex e2.h) r2 hc fun v Hs' H' w rv => Post.grow po3 re2 (Grw.of w) v rv
theorem je_bin {op : Operator} {r : R2} {f : D → D → Option D} (ho : OpR X (binaryOp op) r) (hr : OpS X.K r f) (ha : PE X a (tOf X.K E ma)) (hb : PE X b (tOf X.K E mb)) : PE X (.BinOp a op b pos) (tOf X.K E (mBin f ma mb)) :=
  pe_imp (pe_op ho ha hb) fun _ _ _ h => binS hr h
theorem je_cmp {op : CmpOp} {r : R2} {f : D → D → Option D} (ho : OpR X (compareOp op) r) (hr : OpS X.K r f) (ha : PE X a (tOf X.K E ma)) (hb : PE X b (tOf X.K E mb)) (hm : behindInMarks op b = false) : PE X (.Compare a [op] [b] pos) (tOf X.K E (mBin f ma mb)) :=
  pe_imp (pe_cmpR ho ha hb hm) fun _ _ _ h => binS hr h
def mTest (m : M D) : M Bool := mBind m fun d => mOpt (toB d)
theorem testS {t : TE} {m : M D} (h : ∀ σ H Q, tOf X.K E m σ H Q → t σ H Q) {σ : L2.St} {H : Hp} {Q : Bool → Hp → Prop} (q : tOfT X.K E (mTest m) σ H Q) : tTest t σ H Q := by
  obtain ⟨G, g, δ, re, po⟩ := q
  refine h _ _ _ (tOf.step re po fun x d g1 H1 δ1 e1 re1 r1 po1 => ?_)
  obtain ⟨c, hc, po3⟩ := Post.opt po1
  cases r1 <;> simp [toB] at hc
  subst hc
  exact ⟨_, rfl, Post.of po3 re1⟩
theorem jt_cmp {op : CmpOp} {r : R2} {f : D → D → Option D} (ho : OpR X (compareOp op) r) (hr : OpS X.K r f) (ha : PE X a (tOf X.K E ma)) (hb : PE X b (tOf X.K E mb)) (hm : behindInMarks op b = false) : PT X (.Compare a [op] [b] pos) (tOfT X.K E (mTest (mBin f ma mb))) :=
  pt_imp (pt_cmpR ho ha hb hm) fun _ _ _ h => testS (fun _ _ _ => binS hr) h
theorem jt_val {m : M D} (h : PE X e (tOf X.K E m)) (he : ∀ whole, isTrue e X.env whole = (do let v ← whole; standAt e.pos; holding [v] (truthy v)) := by intro _; rfl) : PT X e (tOfT X.K E (mTest m)) :=
  pt_imp (pt_val h he) fun _ _ _ q => testS (fun _ _ _ z => z) q
def mChain (f f' : D → D → Option D) (ma mb mc : M D) : M D := mBind ma fun d => mBind mb fun e => mBind (mOpt ((f d e).bind toB)) fun k => if k then mBind mc fun z => mOpt (f' e z) else mPure (.bool false)
variable {c : Expr} {mc : M D}
theorem chainS {r r' : R2} {f f' : D → D → Option D} (hr : OpB X.K r f) (hr' : OpS X.K r' f') {σ : L2.St} {H : Hp} {Q : VK} (h : tOf X.K E (mChain f f' ma mb mc) σ H Q) : tChain r r' (tOf X.K E ma) (tOf X.K E mb) (tOf X.K E mc) σ H Q := by
  obtain ⟨G, g, δ, re, po⟩ := h
  refine tOf.step re po fun x d g1 H1 δ1 e1 re1 r1 po1 => ?_
  refine tOf.step re1 po1 fun y e g2 H2 δ2 e2 re2 r2 po2 => ?_
  obtain ⟨k, hk, po3⟩ := Post.optB po2
  refine hr g2.h H2 x y d e k _ re2.ex (r1.ex e2.h) r2 hk ⟨k, rfl, ?_⟩
  cases k with
  | true =>
    rw [if_pos rfl] at po3 ⊢
    refine tOf.step re2 po3 fun z f g3 H3 δ3 e3 re3 r3 po4 => ?_
    obtain ⟨c, hc, po5⟩ := Post.opt po4
    exact hr' g3.h H3 y z e f c Q re3.ex (r2.ex e3.h) r3 hc fun v Hs' H' w rv => Post.grow po5 re3 (Grw.of w) v rv
  | false =>
    rw [if_neg Bool.false_ne_true] at po3 ⊢
    exact Post.of po3 re2 _ (.bl false)
theorem je_chain {op op' : CmpOp} {r r' : R2} {f f' : D → D → Option D} (ho : OpR X (compareOp op) r) (ho' : OpR X (compareOp op') r') (hr : OpB X.K r f) (hr' : OpS X.K r' f') (ha : PE X a (tOf X.K E ma)) (hb : PE X b (tOf X.K E mb)) (hc : PE X c (tOf X.K E mc))
    (hm : lastMarks [op, op'] [b, c] = false := by with_unfolding_all rfl) : PE X (.Compare a [op, op'] [b, c] pos) (tOf X.K E (mChain f f' ma mb mc)) :=
  pe_imp (pe_chain ho ho' ha hb hc hm) fun _ _ _ h => chainS hr hr' h
theorem jt_chain {op op' : CmpOp} {r r' : R2} {f f' : D → D → Option D} (ho : OpR X (compareOp op) r) (ho' : OpR X (compareOp op') r') (hr : OpB X.K r f) (hr' : OpS X.K r' f') (ha : PE X a (tOf X.K E ma)) (hb : PE X b (tOf X.K E mb)) (hc : PE X c (tOf X.K E mc))
    (hm : lastMarks [op, op'] [b, c] = false := by with_unfolding_all rfl) : PT X (.Compare a [op, op'] [b, c] pos) (tOfT X.K E (mTest (mChain f f' ma mb mc))) :=
  pt_imp (pt_chain ho ho' ha hb hc hm) fun _ _ _ h => testS (fun _ _ _ z => chainS hr hr' z) h
theorem je_ix (ha : PE X a (tOf X.K E ma)) (hb : PE X b (tOf X.K E mb)) (hs : PlainIx b) : PE X (.Subscript a b pos) (tOf X.K E (mBin dIx ma mb)) :=
  pe_imp (pe_ix ix_seq ha hb hs) fun _ _ _ h => binS os_ix h
def tOfP (K : Frag) (E : XQ) (m : M (Option Int)) : TO := fun σ H Q => Cf K E m σ H fun _ o _ H' _ => Q o H'
def mPart (m : M D) : M (Option Int) := mBind m fun d => mOpt (toI d)
def mNoPart : M (Option Int) := mPure none
theorem jp_none : PO X none (tOfP X.K E mNoPart) := ⟨fun pins s σ H Q I ⟨G, g, δ, re, po⟩ => po_none.run pins s σ H Q I (Post.of po re)⟩
theorem jp_some (h : PE X e (tOf X.K E m)) : PO X (some e) (tOfP X.K E (mPart m)) := ⟨fun pins s σ H Q I ⟨G, g, δ, re, po⟩ => (po_some h).run pins s σ H Q I (by
  refine tOf.step re po fun x d g1 H1 δ1 e1 re1 r1 po1 => ?_
  obtain ⟨c, hc, po3⟩ := Post.opt po1
  cases r1 <;> simp [toI] at hc
  subst hc
  exact ⟨_, rfl, Post.of po3 re1⟩)⟩
def mSl (m : M D) (ml mh : M (Option Int)) : M D := mBind m fun d => mBind ml fun l => mBind mh fun h => mOpt (dSl d l h)
theorem je_slice {lo hi : Option Expr} {ml mh : M (Option Int)} {p2 : Pos} (he : PE X e (tOf X.K E m)) (hl : PO X lo (tOfP X.K E ml)) (hu : PO X hi (tOfP X.K E mh)) : PE X (.Subscript e (.Slice lo hi none p2) pos) (tOf X.K E (mSl m ml mh)) :=
  pe_imp (pe_slice sl_Z he hl hu) fun σ H Q ⟨G, g, δ, re, po⟩ => by
    refine tOf.step re po fun x d g1 H1 δ1 e1 re1 r1 po1 => ?_
    refine Cf.step re1 po1 fun l g2 H2 δ2 e2 re2 po2 => ?_
    refine Cf.step re2 po2 fun u g3 H3 δ3 e3 re3 po3 => ?_
    obtain ⟨c, hc, po4⟩ := Post.opt po3
    exact slS re3.ex ((r1.ex e2.h).ex e3.h) hc fun v Hs' H' w rv => Post.grow po4 re3 (Grw.of w) v rv
variable {t1 t2 : M Bool} {rest : List Expr}
def mAndT (t1 t2 : M Bool) : M Bool := mBind t1 fun b => if b then t2 else mPure false
def mOrT (t1 t2 : M Bool) : M Bool := mBind t1 fun b => if b then mPure true else t2
def mNotT (t : M Bool) : M Bool := mBind t fun b => mPure (!b)
theorem jt_not (h : PT X a (tOfT X.K E t1)) : PT X (.UnaryOp .Not a pos) (tOfT X.K E (mNotT t1)) :=
  pt_imp (pt_not h) fun σ H Q ⟨G, g, δ, re, po⟩ => tOfT.step re po fun b g1 H1 δ1 e1 re1 po1 => Post.of po1 re1
theorem jw_and1 (h : PT X a (tOfT X.K E t1)) : PW X (.BoolOp .And [a] pos) (tOfT X.K E t1) := pw_and1 h
theorem jw_or1 (h : PT X a (tOfT X.K E t1)) : PW X (.BoolOp .Or [a] pos) (tOfT X.K E t1) := pw_or1 h
theorem jw_and (h : PT X a (tOfT X.K E t1)) (h2 : PW X (.BoolOp .And (b :: rest) pos) (tOfT X.K E t2)) : PW X (.BoolOp .And (a :: b :: rest) pos) (tOfT X.K E (mAndT t1 t2)) :=
  pw_imp (pw_and h h2) fun σ H Q ⟨G, g, δ, re, po⟩ => tOfT.step re po fun b g1 H1 δ1 e1 re1 po1 => by
    cases b with
    | true => exact Cf.last re1 po1
    | false => exact Post.of po1 re1
theorem jw_or (h : PT X a (tOfT X.K E t1)) (h2 : PW X (.BoolOp .Or (b :: rest) pos) (tOfT X.K E t2)) : PW X (.BoolOp .Or (a :: b :: rest) pos) (tOfT X.K E (mOrT t1 t2)) :=
  pw_imp (pw_or h h2) fun σ H Q ⟨G, g, δ, re, po⟩ => tOfT.step re po fun b g1 H1 δ1 e1 re1 po1 => by
    cases b with
    | true => exact Post.of po1 re1
    | false => exact Cf.last re1 po1
def mAndV (m1 m2 : M D) : M D := mBind (mTest m1) fun b => if b then m2 else mPure (.bool false)
def mOrV (m1 m2 : M D) : M D := mBind (mTest m1) fun b => if b then mPure (.bool true) else m2
def mNotV (m : M D) : M D := mBind (mTest m) fun b => mPure (.bool (!b))
theorem bind_assoc {α β γ : Type} {m : M α} {f : α → M β} {h : β → M γ} (δ : Sx) : mBind (mBind m f) h δ = mBind m (fun a => mBind (f a) h) δ := by
  unfold mBind
  cases m δ <;> rfl
theorem testV {G : Hp} {g : Gh} {H : Hp} {σ : L2.St} {δ : Sx} {β : Type} {f : Bool → M β} {QQ : β → Gh → Hp → Sx → Prop} {K : Frag} {R : V → Hp → Prop} (re : RE K G g H σ δ) (po : Post K E G g σ (mBind (mTest m) f δ) QQ)
    (k : ∀ b g1 H1 δ1, Le g g1 → RE K G g1 H1 σ δ1 → Post K E G g1 σ (f b δ1) QQ → R (.bl b) H1) : tOf K E m σ H R := by
  unfold mTest at po
  rw [bind_assoc] at po
  refine tOf.step re po fun x d g1 H1 δ1 e1 re1 r1 po1 => ?_
  cases r1 with
  | bl b => exact k b g1 H1 δ1 e1 re1 po1
  | _ => exact po1.elim
theorem je_and (h : PE X a (tOf X.K E ma)) (h2 : PE X (.BoolOp .And (b :: rest) pos) (tOf X.K E mb)) : PE X (.BoolOp .And (a :: b :: rest) pos) (tOf X.K E (mAndV ma mb)) :=
  pe_imp (pe_and h h2) fun σ H Q ⟨G, g, δ, re, po⟩ => testV re po fun b g1 H1 δ1 e1 re1 po1 => ⟨b, rfl, by
    cases b with
    | true => exact Cf.last re1 po1
    | false => exact Post.of po1 re1 _ (.bl false)⟩
theorem je_one {op : BoolOp} (h : PE X a (tOf X.K E ma)) : PE X (.BoolOp op [a] pos) (tOf X.K E ma) := pe_one h
theorem je_not (h : PE X a (tOf X.K E ma)) : PE X (.UnaryOp .Not a pos) (tOf X.K E (mNotV ma)) :=
  pe_imp (pe_not h) fun σ H Q ⟨G, g, δ, re, po⟩ => testV re po fun b g1 H1 δ1 e1 re1 po1 => ⟨b, rfl, Post.of po1 re1 _ (.bl _)⟩
def mIfE (t : M Bool) (m1 m2 : M D) : M D := mBind t fun b => if b then m1 else m2
theorem je_if {c : Expr} (hc : PT X c (tOfT X.K E t1)) (h : PE X a (tOf X.K E ma)) (h2 : PE X b (tOf X.K E mb)) : PE X (.IfExp c a b pos) (tOf X.K E (mIfE t1 ma mb)) :=
  pe_imp (pe_ifExp hc h h2) fun σ H Q ⟨G, g, δ, re, po⟩ => tOfT.step re po fun b g1 H1 δ1 e1 re1 po1 => by
    cases b with
    | true => exact Cf.last re1 po1
    | false => exact Cf.last re1 po1
def mNeg (m : M D) : M D := mBind m fun d => mOpt (dNeg d)
theorem je_neg (h : PE X a (tOf X.K E ma)) : PE X (.UnaryOp .USub a pos) (tOf X.K E (mNeg ma)) :=
  pe_imp (pe_un un_neg h) fun σ H Q ⟨G, g, δ, re, po⟩ => tOf.step re po fun x d g1 H1 δ1 e1 re1 r1 po1 => by
    obtain ⟨c, hc, po3⟩ := Post.opt po1
    cases r1 <;> simp [dNeg] at hc
    subst hc
    exact ⟨_, rfl, Post.of po3 re1 _ (.int _)⟩
/-- a fresh list, as data, as one of the store's -/
def mFr (m : M (List Cl)) : M D := mBind m fun xs => mOpt ((shL xs).map PyData.list)
theorem je_fr {m : M (List Cl)} (h : PE X e (tOfO X.K E m)) : PE X e (tOf X.K E (mFr m)) :=
  pe_imp h fun σ H Q ⟨G, g, δ, re, po⟩ => tOfO.step re po fun a xs g1 H1 δ1 e1 re1 f1 po1 => by
    obtain ⟨d, hd, po2⟩ := Post.opt po1
    obtain ⟨ds, h1, h2⟩ := Option.map_eq_some_iff.mp hd
    subst h2
    obtain ⟨g2, k1, _, k2, k3⟩ := re1.freeze f1 h1
    exact po2 g2 H1 k1 k2 _ k3
def mAll (o : Ob) : M Nat := fun δ => .ok δ.s.length ⟨δ.e, δ.s ++ [o]⟩
def mNew (m : M (List Cl)) : M Nat := mBind m fun xs => mAll (.lst xs)
theorem allS {K : Frag} {G : Hp} {g : Gh} {H : Hp} {σ : L2.St} {δ : Sx} {a : Addr} {o : Ob} {QQ : Nat → Gh → Hp → Sx → Prop} (re : RE K G g H σ δ) (f : Fro K G g H a o) (po : Post K E G g σ (mAll o δ) QQ) : ∃ g', QQ δ.s.length g' H ⟨δ.e, δ.s ++ [o]⟩ ∧ g'.r[δ.s.length]? = some a := by
  obtain ⟨le, re'⟩ := re.alloc f
  refine ⟨_, po _ H le re', ?_⟩
  show (g.r ++ [a])[δ.s.length]? = some a
  rw [← re.rl, List.getElem?_append_right (Nat.le_refl _), Nat.sub_self]
  rfl
theorem jl_new {m : M (List Cl)} (h : PE X e (tOfO X.K E m)) : PE X e (tOfL X.K E (mNew m)) :=
  pe_imp h fun σ H Q ⟨G, g, δ, re, po⟩ => tOfO.step re po fun a xs g1 H1 δ1 e1 re1 f1 po1 => by
    obtain ⟨g2, k1, k2⟩ := allS re1 f1.fro po1
    exact k1 a k2
/-- a list of the store, at last data -/
def mSeal (m : M Nat) : M D := mBind m fun l δ => match δ.s[l]? with
  | some (.lst xs) => match shL xs with
    | some ds => .ok (.list ds) ⟨δ.e, δ.s.set l .gone⟩
    | none => .bad
  | _ => .bad
end
end Ds
namespace Ds
open PySem PySem.Spec PyProof.Rows L2 Dn
def evA : List (M Cl) → M (List Cl)
  | [] => mPure []
  | m :: as => mBind m fun c => mBind (evA as) fun cs => mPure (c :: cs)
/-- what a cell holds now, as data -/
def snap (s : List Ob) : Cl → Option D
  | .sh d => some d
  | .lo l => match s[l]? with
    | some (.lst xs) => (shL xs).map PyData.list
    | _ => none
  | .no => none
def snaps (s : List Ob) : List Cl → Option (List D)
  | [] => some []
  | c :: cs => (snap s c).bind fun d => (snaps s cs).map (d :: ·)
section
variable {K : Frag} {G : Hp} {g : Gh} {H : Hp} {σ : L2.St} {δ : Sx}
theorem RE.lstAt (r : RE K G g H σ δ) {l : Nat} {a : Addr} {xs : List Cl} (h : g.r[l]? = some a) (hx : δ.s[l]? = some (.lst xs)) : ∃ vs, H a = some (.lst vs) ∧ All2 (CR K g) vs xs := by
  obtain ⟨b, u, h1, h2, h3, h4⟩ := r.ob l _ hx rfl
  rw [h] at h1
  cases h1
  cases h3 with
  | lst h3 => exact ⟨_, h2, h3⟩
theorem snap_lo {s : List Ob} {l : Nat} {d : D} (h : snap s (.lo l) = some d) : ∃ xs ds, s[l]? = some (.lst xs) ∧ shL xs = some ds ∧ d = .list ds := by
  have h : (match s[l]? with
    | some (.lst xs) => (shL xs).map PyData.list
    | _ => none) = some d := h
  split at h
  · rename_i xs hx
    obtain ⟨ds, h3, h4⟩ := Option.map_eq_some_iff.mp h
    exact ⟨xs, ds, hx, h3, h4.symm⟩
  · cases h
theorem snap_rp (r : RE K G g H σ δ) : ∀ {v : V} {c : Cl} {d : D}, CR K g v c → snap δ.s c = some d → Rp K H v d
  | _, _, d, .sh h, q => by cases q; exact h.ex r.ex
  | _, .lo l, d, .lo h, q => by
    obtain ⟨xs, ds, hx, h3, rfl⟩ := snap_lo q
    obtain ⟨vs, h1, h2⟩ := r.lstAt h hx
    exact .lst (SqL.of h1) ((shL_rps h2 h3).ex r.ex)
theorem snaps_rp (r : RE K G g H σ δ) : ∀ {vs : List V} {cs : List Cl} {ds : List D}, All2 (CR K g) vs cs → snaps δ.s cs = some ds → Rps K H vs ds
  | _, _, ds, .nil, q => by cases q; exact .nil
  | _, _, ds, .cons h t, q => by
    unfold snaps at q
    obtain ⟨d, h1, h2⟩ := Option.bind_eq_some_iff.mp q
    obtain ⟨es, h3, h4⟩ := Option.map_eq_some_iff.mp h2
    subst h4
    exact .cons (snap_rp r h h1) (snaps_rp r t h3)
/-- new things of no account -/
theorem Post.late {E : XQ} {α : Type} {a : α} {H' : Hp} {QQ : α → Gh → Hp → Sx → Prop} (po : Post K E G g σ (.ok a δ) QQ) (r : RE K G g H σ δ) (e : Ex H H') : QQ a g H' δ := po g H' (Le.refl _) (r.newH e)
end
section
variable {X : Cx} {E : XQ} {a b e o : Expr} {es : List Expr} {pos : Pos} {ma mb m : M D} {mc mk : M Cl} {as : List (M Cl)}
theorem ja_nil : PA X [] (tOfA X.K E (evA [])) := pa_imp pa_nil fun σ H Q ⟨G, g, δ, re, po⟩ => Post.of po re [] .nil
theorem ja_c (h : PE X e (tOfC X.K E mc)) (t : PA X es (tOfA X.K E (evA as))) (hs : starEach (e :: es) X.env = (false, eval e X.env) :: starEach es X.env := by rfl) : PA X (e :: es) (tOfA X.K E (evA (mc :: as))) :=
  pa_imp (pa_cons h t hs) fun σ H Q ⟨G, g, δ, re, po⟩ => tOfC.step re po fun v c g1 H1 δ1 e1 re1 r1 po1 => tOfA.step re1 po1 fun vs cs g2 H2 δ2 e2 re2 r2 po2 => Post.of po2 re2 (v :: vs) (.cons (r1.le e2) r2)
def mCallB (f : List D → Option D) (as : List (M Cl)) : M D := mBind (evA as) fun cs => mOpt ((shL cs).bind f)
/-- lists of the store may stand among the arguments; what comes back is flat -/
def mCallC (f : List D → Option D) (as : List (M Cl)) : M D := mBind (evA as) fun cs δ => match (snaps δ.s cs).bind f with
  | some d => if flatD d = true then .ok d δ else .bad
  | none => .bad
theorem callS {r : List V → Hp → VK → Prop} {f : List D → Option D} (hr : CallS X.K r f) {σ : L2.St} {H : Hp} {Q : VK} (h : tOf X.K E (mCallB f as) σ H Q) : tCB r (tOfA X.K E (evA as)) σ H Q := by
  obtain ⟨G, g, δ, re, po⟩ := h
  refine tOfA.step re po fun vs cs g1 H1 δ1 e1 re1 r1 po1 => ?_
  obtain ⟨c, hc, po2⟩ := Post.opt po1
  obtain ⟨ds, h1, h2⟩ := Option.bind_eq_some_iff.mp hc
  exact hr g1.h H1 vs ds c Q re1.ex (shL_rps r1 h1) h2 fun v Hs' H' w rv => Post.grow po2 re1 (Grw.of w) v rv
theorem callC {r : List V → Hp → VK → Prop} {f : List D → Option D} (hr : CallS X.K r f) {σ : L2.St} {H : Hp} {Q : VK} (h : tOf X.K E (mCallC f as) σ H Q) : tCB r (tOfA X.K E (evA as)) σ H Q := by
  obtain ⟨G, g, δ, re, po⟩ := h
  refine tOfA.step re po fun vs cs g1 H1 δ1 e1 re1 r1 po1 => ?_
  split at po1
  · rename_i d hd
    obtain ⟨ds, h1, h2⟩ := Option.bind_eq_some_iff.mp hd
    split at po1
    · rename_i hf
      exact hr H1 H1 vs ds d Q (Ex.refl _) (snaps_rp re1 r1 h1) h2 fun v Hs' H' w rv => Post.late po1 re1 w.h v (flat_free rv hf)
    · exact po1.elim
  · exact po1.elim
theorem je_callB {x : Str} {p : Pos} {id : String} {r : List V → Hp → VK → Prop} {f : List D → Option D} (hc : CallR X (.builtin id) r) (hr : CallS X.K r f) (hg : Gl X x) (hm : X.mg x = none) (hv : bootBuiltins x = some (.builtin id)) (ha : PA X (e :: es) (tOfA X.K E (evA as))) (hn : x ≠ "__name__" := by decide) (hdb : (x == ("__debug__" : Str)) = false := by decide)
    (he : starEach (e :: es) X.env = (false, eval e X.env) :: starEach es X.env := by rfl) (hpl : (backTo pos (starEach es X.env)).any (·.1) = false := by rfl) : PE X (.Call (.Name x p) (e :: es) [] pos) (tOf X.K E (mCallB f as)) :=
  pe_imp (pe_callB hc hg hm hv ha hn hdb he hpl) fun _ _ _ h => callS hr h
theorem je_callTy {x : Str} {p : Pos} {T : String} {r : List V → Hp → VK → Prop} {f : List D → Option D} (hc : CallR X (.type T) r) (hr : CallS X.K r f) (hg : Gl X x) (hm : X.mg x = none) (hv : bootBuiltins x = some (.type T)) (ha : PA X (e :: es) (tOfA X.K E (evA as))) (hn : x ≠ "__name__" := by decide) (hdb : (x == ("__debug__" : Str)) = false := by decide)
    (he : starEach (e :: es) X.env = (false, eval e X.env) :: starEach es X.env := by rfl) (hpl : (backTo pos (starEach es X.env)).any (·.1) = false := by rfl) : PE X (.Call (.Name x p) (e :: es) [] pos) (tOf X.K E (mCallB f as)) :=
  pe_imp (pe_callTy hc hg hm hv ha hn hdb he hpl) fun _ _ _ h => callS hr h
theorem je_callBC {x : Str} {p : Pos} {id : String} {r : List V → Hp → VK → Prop} {f : List D → Option D} (hc : CallR X (.builtin id) r) (hr : CallS X.K r f) (hg : Gl X x) (hm : X.mg x = none) (hv : bootBuiltins x = some (.builtin id)) (ha : PA X (e :: es) (tOfA X.K E (evA as))) (hn : x ≠ "__name__" := by decide) (hdb : (x == ("__debug__" : Str)) = false := by decide)
    (he : starEach (e :: es) X.env = (false, eval e X.env) :: starEach es X.env := by rfl) (hpl : (backTo pos (starEach es X.env)).any (·.1) = false := by rfl) : PE X (.Call (.Name x p) (e :: es) [] pos) (tOf X.K E (mCallC f as)) :=
  pe_imp (pe_callB hc hg hm hv ha hn hdb he hpl) fun _ _ _ h => callC hr h
/-- list(x): a fresh one -/
def itemsD : D → Option (List D)
  | .list xs => some xs
  | .tuple xs => some xs
  | _ => none
def mListOf (mc : M Cl) : M (List Cl) := mBind (evA [mc]) fun cs δ => match snaps δ.s cs with
  | some [d] => match itemsD d with
    | some xs => .ok (xs.map Cl.sh) δ
    | none => .bad
  | _ => .bad
theorem FrO.new {K : Frag} {G : Hp} {g : Gh} {H : Hp} {σ : L2.St} {δ : Sx} {p : Addr} {vs : List V} {xs : List Cl} (re : RE K G g H σ δ) (hp : H p = none) (h : All2 (CR K g) vs xs) : FrO K G g (upd H p (.lst vs)) p xs :=
  ⟨⟨vs, upd_same, h⟩, ex_none re.ex hp, (by
    cases q : G p with
    | none => rfl
    | some u => have := (re.fg p u q).1; rw [hp] at this; cases this), re.nin hp⟩
/-- the items of a list or tuple: in the store, or data -/
theorem snap_items {K : Frag} {G : Hp} {g : Gh} {H : Hp} {σ : L2.St} {δ : Sx} (r : RE K G g H σ δ) {v : V} {c : Cl} {d : D} {xs : List D} (h : CR K g v c) (hs : snap δ.s c = some d) (hi : itemsD d = some xs) : ∃ p ys, v = .ref p ∧ (SqL K H p ys ∨ SqT K H p ys) ∧ Rps K g.h ys xs := by
  cases h with
  | sh h =>
    cases hs
    cases h with
    | lst h1 t => cases hi; exact ⟨_, _, rfl, .inl (sqL_ex r.ex h1), t⟩
    | tup h1 t => cases hi; exact ⟨_, _, rfl, .inr (sqT_ex r.ex h1), t⟩
    | _ => cases hi
  | lo h =>
    obtain ⟨ys, ds, hx, h3, rfl⟩ := snap_lo hs
    obtain ⟨vs, h1, h2⟩ := r.lstAt h hx
    cases hi
    exact ⟨_, vs, rfl, .inl (SqL.of h1), shL_rps h2 h3⟩
theorem jo_listOf {p : Pos} (hg : Gl X "list") (hm : X.mg "list" = none) (hv : bootBuiltins "list" = some (.type "list")) (h : PE X e (tOfC X.K E mc))
    (he : starEach [e] X.env = (false, eval e X.env) :: starEach [] X.env := by rfl) (hpl : (backTo pos (starEach [] X.env)).any (·.1) = false := by rfl) : PE X (.Call (.Name "list" p) [e] [] pos) (tOfO X.K E (mListOf mc)) :=
  pe_imp (pe_callTy call_list_of hg hm hv (ja_c h ja_nil he) (by decide) (by decide) he hpl) fun σ H Q ⟨G, g, δ, re, po⟩ => by
    refine tOfA.step re po fun vs cs g1 H1 δ1 e1 re1 r1 po1 => ?_
    split at po1
    · rename_i d hd
      split at po1
      · rename_i xs hx
        cases r1 with
        | nil => cases hd
        | cons h t =>
          cases t with
          | cons _ _ =>
            unfold snaps at hd
            obtain ⟨d1, h1, h2⟩ := Option.bind_eq_some_iff.mp hd
            obtain ⟨es, h3, h4⟩ := Option.map_eq_some_iff.mp h2
            unfold snaps at h3
            obtain ⟨d2, h5, h6⟩ := Option.bind_eq_some_iff.mp h3
            obtain ⟨es', h7, h8⟩ := Option.map_eq_some_iff.mp h6
            subst h8
            cases h4
          | nil =>
            unfold snaps at hd
            obtain ⟨d1, h1, h2⟩ := Option.bind_eq_some_iff.mp hd
            have h2 : some [d1] = some [d] := h2
            cases h2
            obtain ⟨q, ys, hv', hsq, hr⟩ := snap_items re1 h h1 hx
            subst hv'
            exact ⟨q, ys, rfl, hsq, fun l hl => Post.late po1 re1 (ex_new hl) l (FrO.new re1 hl (rps_cr hr))⟩
      · exact po1.elim
    · exact po1.elim
/-- tuple(x), x one of the store's -/
def mTupOf (mc : M Cl) : M D := mBind (evA [mc]) fun cs δ => match snaps δ.s cs with
  | some [d] => match itemsD d with
    | some xs => .ok (.tuple xs) δ
    | none => .bad
  | _ => .bad
theorem snaps_one {K : Frag} {g : Gh} {δ : Sx} {vs : List V} {cs : List Cl} {d : D} (r1 : All2 (CR K g) vs cs) (hd : snaps δ.s cs = some [d]) : ∃ v c, vs = [v] ∧ cs = [c] ∧ CR K g v c ∧ snap δ.s c = some d := by
  cases r1 with
  | nil => cases hd
  | cons h t =>
    unfold snaps at hd
    obtain ⟨d1, h1, h2⟩ := Option.bind_eq_some_iff.mp hd
    obtain ⟨es, h3, h4⟩ := Option.map_eq_some_iff.mp h2
    cases t with
    | nil =>
      cases h3
      cases h4
      exact ⟨_, _, rfl, rfl, h, h1⟩
    | cons _ _ =>
      unfold snaps at h3
      obtain ⟨d2, h5, h6⟩ := Option.bind_eq_some_iff.mp h3
      obtain ⟨es', h7, h8⟩ := Option.map_eq_some_iff.mp h6
      subst h8
      cases h4
theorem je_tupOf {p : Pos} (hg : Gl X "tuple") (hm : X.mg "tuple" = none) (hv : bootBuiltins "tuple" = some (.type "tuple")) (h : PE X e (tOfC X.K E mc))
    (he : starEach [e] X.env = (false, eval e X.env) :: starEach [] X.env := by rfl) (hpl : (backTo pos (starEach [] X.env)).any (·.1) = false := by rfl) : PE X (.Call (.Name "tuple" p) [e] [] pos) (tOf X.K E (mTupOf mc)) :=
  pe_imp (pe_callTy call_tuple_of hg hm hv (ja_c h ja_nil he) (by decide) (by decide) he hpl) fun σ H Q ⟨G, g, δ, re, po⟩ => by
    refine tOfA.step re po fun vs cs g1 H1 δ1 e1 re1 r1 po1 => ?_
    split at po1
    · rename_i d hd
      split at po1
      · rename_i xs hx
        obtain ⟨v, c, rfl, rfl, hc, hs⟩ := snaps_one r1 hd
        cases hc with
        | sh h =>
          cases hs
          cases h with
          | lst h1 t =>
            cases hx
            exact ⟨_, _, rfl, .inl ⟨sqL_ex re1.ex h1, fun p hp => Post.grow po1 re1 (Grw.new re1.ex hp) _ (.tup (StT.of upd_same) (t.ex (Gr.new re1.ex hp).s))⟩⟩
          | tup h1 t =>
            cases hx
            exact ⟨_, _, rfl, .inr ⟨sqT_ex re1.ex h1, Post.of po1 re1 _ (.tup h1 t)⟩⟩
          | _ => cases hx
        | lo h =>
          obtain ⟨ys, ds, hxs, h3, rfl⟩ := snap_lo hs
          obtain ⟨vs, h1, h2⟩ := re1.lstAt h hxs
          cases hx
          exact ⟨_, vs, rfl, .inl ⟨SqL.of h1, fun p hp => Post.grow po1 re1 (Grw.new re1.ex hp) _ (.tup (StT.of upd_same) ((shL_rps h2 h3).ex (Gr.new re1.ex hp).s))⟩⟩
      · exact po1.elim
    · exact po1.elim
def mBinC (f : D → D → Option D) (mc mk : M Cl) : M D := mBind mc fun c => mBind mk fun k δ => match (snap δ.s c).bind fun d => (snap δ.s k).bind fun e => f d e with
  | some d => if flatD d = true then .ok d δ else .bad
  | none => .bad
theorem binC {r : R2} {f : D → D → Option D} (hr : OpS X.K r f) {σ : L2.St} {H : Hp} {Q : VK} (h : tOf X.K E (mBinC f mc mk) σ H Q) : tOp r (tOfC X.K E mc) (tOfC X.K E mk) σ H Q := by
  obtain ⟨G, g, δ, re, po⟩ := h
  refine tOfC.step re po fun x d g1 H1 δ1 e1 re1 r1 po1 => ?_
  refine tOfC.step re1 po1 fun y e g2 H2 δ2 e2 re2 r2 po2 => ?_
  split at po2
  · rename_i d' hd
    obtain ⟨d1, h1, h2⟩ := Option.bind_eq_some_iff.mp hd
    obtain ⟨d2, h3, h4⟩ := Option.bind_eq_some_iff.mp h2
    split at po2
    · rename_i hf
      exact hr H2 H2 x y d1 d2 d' Q (Ex.refl _) (snap_rp re2 (r1.le e2) h1) (snap_rp re2 r2 h3) h4 fun v Hs' H' w rv => Post.late po2 re2 w.h v (flat_free rv hf)
    · exact po2.elim
  · exact po2.elim
theorem jt_cmpC {op : CmpOp} {r : R2} {f : D → D → Option D} (ho : OpR X (compareOp op) r) (hr : OpS X.K r f) (ha : PE X a (tOfC X.K E mc)) (hb : PE X b (tOfC X.K E mk)) (hm : behindInMarks op b = false) : PT X (.Compare a [op] [b] pos) (tOfT X.K E (mTest (mBinC f mc mk))) :=
  pt_imp (pt_cmpR ho ha hb hm) fun _ _ _ h => testS (fun _ _ _ => binC hr) h
def ixC (s : List Ob) (c : Cl) (e : D) : Option Cl := match c with
  | .sh d => (dIx d e).map Cl.sh
  | .lo l => match s[l]?, e with
    | some (.lst xs), .int i => atI xs i
    | _, _ => none
  | .no => none
def mIxC (mc : M Cl) (m : M D) : M Cl := mBind mc fun c => mBind m fun e δ => match ixC δ.s c e with
  | some k => .ok k δ
  | none => .bad
theorem atI_all2 {α β : Type} {R : α → β → Prop} {vs : List α} {ds : List β} {i : Int} {d : β} (t : All2 R vs ds) (h : atI ds i = some d) : ∃ v, atI vs i = some v ∧ R v d := by
  unfold atI at h ⊢
  rw [t.length]
  cases q : ixN ds.length i with
  | none => rw [q] at h; simp at h
  | some j =>
    rw [q] at h
    simp only [Option.bind_some] at h ⊢
    exact t.get h
theorem jc_ix (ha : PE X a (tOfC X.K E mc)) (hb : PE X b (tOf X.K E m)) (hs : PlainIx b) : PE X (.Subscript a b pos) (tOfC X.K E (mIxC mc m)) :=
  pe_imp (pe_ix ix_seq ha hb hs) fun σ H Q ⟨G, g, δ, re, po⟩ => by
    refine tOfC.step re po fun x c g1 H1 δ1 e1 re1 r1 po1 => ?_
    refine tOf.step re1 po1 fun y e g2 H2 δ2 e2 re2 r2 po2 => ?_
    split at po2
    · rename_i k hk
      cases r1 with
      | sh h =>
        obtain ⟨d, h1, h2⟩ := Option.map_eq_some_iff.mp hk
        subst h2
        exact os_ix g2.h H2 x y _ e d Q re2.ex (h.ex e2.h) r2 h1 fun v Hs' H' w rv => Post.grow po2 re2 (Grw.of w) v (.sh rv)
      | lo h =>
        unfold ixC at hk
        dsimp only at hk
        split at hk
        · rename_i xs i hx
          obtain ⟨vs, h1, h2⟩ := re2.lstAt (e2.r _ _ h) hx
          obtain ⟨v, h3, h4⟩ := atI_all2 h2 hk
          cases r2
          exact .inl ⟨_, vs, i, v, rfl, rfl, SqL.of h1, h3, Post.of po2 re2 v h4⟩
        · cases hk
    · exact po2.elim
def mSlC (mc : M Cl) (ml mh : M (Option Int)) : M D := mBind mc fun c => mBind ml fun l => mBind mh fun h δ => match snap δ.s c with
  | some d => match dSl d l h with
    | some e => .ok e δ
    | none => .bad
  | none => .bad
theorem je_sliceC {lo hi : Option Expr} {ml mh : M (Option Int)} {p2 : Pos} (he : PE X e (tOfC X.K E mc)) (hl : PO X lo (tOfP X.K E ml)) (hu : PO X hi (tOfP X.K E mh)) : PE X (.Subscript e (.Slice lo hi none p2) pos) (tOf X.K E (mSlC mc ml mh)) :=
  pe_imp (pe_slice sl_Z he hl hu) fun σ H Q ⟨G, g, δ, re, po⟩ => by
    refine tOfC.step re po fun x c g1 H1 δ1 e1 re1 r1 po1 => ?_
    refine Cf.step re1 po1 fun l g2 H2 δ2 e2 re2 po2 => ?_
    refine Cf.step re2 po2 fun u g3 H3 δ3 e3 re3 po3 => ?_
    split at po3
    · rename_i d hd
      split at po3
      · rename_i e' he'
        have r3 := (r1.le e2).le e3
        cases r3 with
        | sh h =>
          cases hd
          exact slS re3.ex h he' fun v Hs' H' w rv => Post.grow po3 re3 (Grw.of w) v rv
        | lo h =>
          obtain ⟨ys, ds, hxs, h3, rfl⟩ := snap_lo hd
          obtain ⟨vs, h1, h2⟩ := re3.lstAt h hxs
          cases he'
          exact .inr (.inr ⟨_, vs, rfl, SqL.of h1, fun p hp => Post.grow po3 re3 (Grw.new re3.ex hp) _ (.lst (SqL.of upd_same) ((cut_rps (shL_rps h2 h3)).ex (Gr.new re3.ex hp).s))⟩)
      · exact po3.elim
    · exact po3.elim
def mIsi (T : String) (m : M D) : M D := mBind m fun d => mOpt ((kitB (tyD d) T).map PyData.bool)
theorem je_isi {T : Str} {T' : String} {p p' : Pos} (h : PE X e (tOf X.K E m)) (hg : Gl X "isinstance") (hm : X.mg "isinstance" = none) (hgT : Gl X T) (hmT : X.mg T = none) (hvT : bootBuiltins T = some (.type T')) (hnT : T ≠ "__name__" := by decide) (hdT : (T == ("__debug__" : Str)) = false := by decide)
    (he : starEach (e :: [.Name T p']) X.env = (false, eval e X.env) :: starEach [.Name T p'] X.env := by rfl) (he2 : starEach [.Name T p'] X.env = (false, eval (.Name T p') X.env) :: starEach [] X.env := by rfl) (hpl : (backTo pos (starEach [.Name T p'] X.env)).any (·.1) = false := by rfl) :
    PE X (.Call (.Name "isinstance" p) [e, .Name T p'] [] pos) (tOf X.K E (mIsi T' m)) :=
  pe_imp (pe_callB call_isi hg hm (by decide +kernel) (pa_cons h (pa_cons (pe_bltn (v := .ty T') hgT hmT hvT rfl hnT hdT) pa_nil he2) he) (by decide) (by decide) he hpl) fun σ H Q ⟨G, g, δ, re, po⟩ => by
    refine tOf.step re po fun v d g1 H1 δ1 e1 re1 r1 po1 => ?_
    obtain ⟨c, hc, po2⟩ := Post.opt po1
    obtain ⟨b, hb, hc⟩ := Option.map_eq_some_iff.mp hc
    subst hc
    exact ⟨v, .ty T', _, _, b, rfl, .ty T', ty_of re1.ex r1, kit_ty hb, Post.of po2 re1 _ (.bl b)⟩
def mM1 (f : Str → List D → Option D) (mo m : M D) : M D := mBind mo fun d => mBind (mOpt (toS d)) fun z => mBind m fun e => mOpt (f z [e])
def mM1C (f : Str → List D → Option D) (mo : M D) (mc : M Cl) : M D := mBind mo fun d => mBind (mOpt (toS d)) fun z => mBind mc fun c δ => match (snap δ.s c).bind fun e => f z [e] with
  | some d => if flatD d = true then .ok d δ else .bad
  | none => .bad
theorem je_m1 {id : String} {name : Str} {apos pos : Pos} {r : V → List V → Hp → VK → Prop} {f : Str → List D → Option D} (slot : Slot "str" name id) (ty : typeOf (.builtin id) = pure (.type "method_descriptor")) (rule : MtR X id r) (hr : MtS X.K r f) (ho : PE X o (tOf X.K E ma)) (he : PE X e (tOf X.K E m))
    (hs : starEach [e] X.env = [(false, eval e X.env)] := by rfl) (hbase : attributeBase o name X.env (eval o X.env) = eval o X.env := by rfl) (hline : (apos.endLine == pos.line) = true := by rfl) : PE X (.Call (.Attribute o name apos) [e] [] pos) (tOf X.K E (mM1 f ma m)) :=
  pe_imp (pe_m1 slot ty rule ho he hs hbase hline) fun σ H Q ⟨G, g, δ, re, po⟩ => by
    refine tOf.step re po fun v d g1 H1 δ1 e1 re1 r1 po1 => ?_
    obtain ⟨z, hz, po2⟩ := Post.optB po1
    cases r1 <;> simp [toS] at hz
    subst hz
    refine ⟨⟨_, rfl⟩, tOf.step re1 po2 fun w c g2 H2 δ2 e2 re2 r2 po3 => ?_⟩
    obtain ⟨c', hc, po4⟩ := Post.opt po3
    exact hr g2.h H2 _ _ _ c' Q re2.ex (.cons r2 .nil) hc fun v Hs' H' w rv => Post.grow po4 re2 (Grw.of w) v rv
theorem je_m1C {id : String} {name : Str} {apos pos : Pos} {r : V → List V → Hp → VK → Prop} {f : Str → List D → Option D} (slot : Slot "str" name id) (ty : typeOf (.builtin id) = pure (.type "method_descriptor")) (rule : MtR X id r) (hr : MtS X.K r f) (ho : PE X o (tOf X.K E ma)) (he : PE X e (tOfC X.K E mc))
    (hs : starEach [e] X.env = [(false, eval e X.env)] := by rfl) (hbase : attributeBase o name X.env (eval o X.env) = eval o X.env := by rfl) (hline : (apos.endLine == pos.line) = true := by rfl) : PE X (.Call (.Attribute o name apos) [e] [] pos) (tOf X.K E (mM1C f ma mc)) :=
  pe_imp (pe_m1 slot ty rule ho he hs hbase hline) fun σ H Q ⟨G, g, δ, re, po⟩ => by
    refine tOf.step re po fun v d g1 H1 δ1 e1 re1 r1 po1 => ?_
    obtain ⟨z, hz, po2⟩ := Post.optB po1
    cases r1 <;> simp [toS] at hz
    subst hz
    refine ⟨⟨_, rfl⟩, tOfC.step re1 po2 fun w c g2 H2 δ2 e2 re2 r2 po3 => ?_⟩
    split at po3
    · rename_i d' hd
      obtain ⟨d1, h1, h2⟩ := Option.bind_eq_some_iff.mp hd
      split at po3
      · rename_i hf
        exact hr H2 H2 _ _ _ d' Q (Ex.refl _) (.cons (snap_rp re2 r2 h1) .nil) h2 fun v Hs' H' w rv => Post.late po3 re2 w.h v (flat_free rv hf)
      · exact po3.elim
    · exact po3.elim
def mShs (as : List (M Cl)) : M (List D) := mBind (evA as) fun cs => mOpt ((shL cs).filter fun ds => decide (ds.length ≤ sizeLine))
def mTup (as : List (M Cl)) : M D := mBind (mShs as) fun ds => mPure (.tuple ds)
def mLst (as : List (M Cl)) : M D := mBind (mShs as) fun ds => mPure (.list ds)
def mLsO (as : List (M Cl)) : M (List Cl) := mBind (evA as) fun cs => mOpt (if cs.length ≤ sizeLine then some cs else none)
theorem mShs_step {G : Hp} {g : Gh} {H : Hp} {σ : L2.St} {δ : Sx} {β : Type} {f : List D → M β} {QQ : β → Gh → Hp → Sx → Prop} {K : Frag} {R : List V → Hp → Prop} (re : RE K G g H σ δ) (po : Post K E G g σ (mBind (mShs as) f δ) QQ)
    (k : ∀ vs ds g1 H1 δ1, Le g g1 → RE K G g1 H1 σ δ1 → Rps K g1.h vs ds → vs.length ≤ sizeLine → Post K E G g1 σ (f ds δ1) QQ → R vs H1) : tOfA K E (evA as) σ H R := by
  unfold mShs at po
  rw [bind_assoc] at po
  refine tOfA.step re po fun vs cs g1 H1 δ1 e1 re1 r1 po1 => ?_
  obtain ⟨ds, hc, po2⟩ := Post.optB po1
  obtain ⟨h1, h2⟩ := Option.filter_eq_some_iff.mp hc
  have t := shL_rps r1 h1
  exact k vs ds g1 H1 δ1 e1 re1 t (by rw [t.length]; exact of_decide_eq_true h2) po2
theorem je_tup {x1} (h : PA X es (tOfA X.K E (evA as))) : PE X (.Tuple es x1 pos) (tOf X.K E (mTup as)) :=
  pe_imp (pe_tup h) fun σ H Q ⟨G, g, δ, re, po⟩ => mShs_step re po fun vs ds g1 H1 δ1 e1 re1 t hl po1 => ⟨hl, fun p hpn =>
    Post.grow po1 re1 (Grw.new re1.ex hpn) _ (.tup (StT.of upd_same) (t.ex (Gr.new re1.ex hpn).s))⟩
theorem je_lst (h : PA X es (tOfA X.K E (evA as))) : PE X (.List es pos) (tOf X.K E (mLst as)) :=
  pe_imp (pe_lst h) fun σ H Q ⟨G, g, δ, re, po⟩ => mShs_step re po fun vs ds g1 H1 δ1 e1 re1 t hl po1 => ⟨hl, fun p hpn =>
    Post.grow po1 re1 (Grw.new re1.ex hpn) _ (.lst (SqL.of upd_same) (t.ex (Gr.new re1.ex hpn).s))⟩
theorem jo_lst (h : PA X es (tOfA X.K E (evA as))) : PE X (.List es pos) (tOfO X.K E (mLsO as)) :=
  pe_imp (pe_lst h) fun σ H Q ⟨G, g, δ, re, po⟩ => tOfA.step re po fun vs cs g1 H1 δ1 e1 re1 r1 po1 => by
    obtain ⟨ds, hc, po2⟩ := Post.opt po1
    split at hc
    · rename_i hl
      cases hc
      exact ⟨by rw [r1.length]; exact hl, fun p hpn => Post.late po2 re1 (ex_new hpn) p (FrO.new re1 hpn r1)⟩
    · cases hc
/-- a list of data, fresh: what was made as data stays data; here for a + b with lists of the store -/
def mCatO (mc mk : M Cl) : M (List Cl) := mBind mc fun c => mBind mk fun k δ => match snap δ.s c, snap δ.s k with
  | some (.list xs), some (.list ys) => if xs.length + ys.length ≤ sizeLine then .ok ((xs ++ ys).map Cl.sh) δ else .bad
  | _, _ => .bad
theorem jo_cat (ha : PE X a (tOfC X.K E mc)) (hb : PE X b (tOfC X.K E mk)) : PE X (.BinOp a .Add b pos) (tOfO X.K E (mCatO mc mk)) :=
  pe_imp (pe_op op_catR ha hb) fun σ H Q ⟨G, g, δ, re, po⟩ => tOfC.step re po fun x c g1 H1 δ1 e1 re1 r1 po1 => tOfC.step re1 po1 fun y k g2 H2 δ2 e2 re2 r2 po2 => by
    split at po2
    · rename_i xs ys hx hy
      split at po2
      · rename_i hl
        obtain ⟨p, us, e1', q1, t1⟩ := snap_items re2 (r1.le e2) hx rfl
        obtain ⟨q, ws, e2', q2, t2⟩ := snap_items re2 r2 hy rfl
        have f : ∀ {v : V} {c : Cl} {zs : List D} {p : Addr} {ys : List V}, CR X.K g2 v c → snap δ2.s c = some (.list zs) → v = .ref p → Rps X.K g2.h ys zs → (SqL X.K H2 p ys ∨ SqT X.K H2 p ys) → ∃ ys', SqL X.K H2 p ys' ∧ Rps X.K g2.h ys' zs := fun {v c zs p ys} rc hz hv t hs => by
          cases rc with
          | sh h =>
            cases hz
            cases h with
            | lst h1 t1 => cases hv; exact ⟨_, sqL_ex re2.ex h1, t1⟩
          | lo h =>
            obtain ⟨zs', ds, hxs, h3, h4⟩ := snap_lo hz
            obtain ⟨vs, h1, h2⟩ := re2.lstAt h hxs
            cases h4
            cases hv
            exact ⟨vs, SqL.of h1, shL_rps h2 h3⟩
        obtain ⟨us', s1, u1⟩ := f (r1.le e2) hx e1' t1 q1
        obtain ⟨ws', s2, u2⟩ := f r2 hy e2' t2 q2
        exact ⟨p, q, us', ws', e1', e2', s1, s2, by rw [u1.length, u2.length]; exact hl, fun l hln => Post.late po2 re2 (ex_new hln) l (FrO.new re2 hln (rps_cr (u1.append u2)))⟩
      · exact po2.elim
    · exact po2.elim
end
end Ds
namespace Ds
open PySem PySem.Spec PyProof.Rows L2 Dn
inductive Fl where
  | nx
  | rt (c : Cl)
  | bk
  | ct
def FlOk (K : Frag) (B : Ends) (fl : Fl) (σ : L2.St) (g : Gh) (H : Hp) : Prop := match fl with
  | .nx => B.nx σ H
  | .bk => B.bk σ H
  | .ct => B.ct σ H
  | .rt c => ∀ v, CR K g v c → B.rt v H
def PostS (K : Frag) (E : XQ) (G : Hp) (g : Gh) (r : Res Fl) (b : Fl → L2.St → Gh → Hp → Sx → Prop) : Prop := match r with
  | .ok fl δ' => ∀ σ' g' H', Le g g' → RE K G g' H' σ' δ' → b fl σ' g' H' δ'
  | .exc x δ' => ∀ σ' g' H', Le g g' → RE K G g' H' σ' δ' → E x σ' H'
  | .bad => False
abbrev PostF (K : Frag) (E : XQ) (G : Hp) (g : Gh) (r : Res Fl) (B : Ends) : Prop := PostS K E G g r fun fl σ' g' H' _ => FlOk K B fl σ' g' H'
theorem PostS.ex {K : Frag} {E : XQ} {G : Hp} {g g1 : Gh} {r : Res Fl} {b : Fl → L2.St → Gh → Hp → Sx → Prop} (h : PostS K E G g r b) (e : Le g g1) : PostS K E G g1 r b := by
  cases r with
  | ok a δ' => exact fun σ' g' H' e' r => h σ' g' H' (e.trans e') r
  | exc x δ' => exact fun σ' g' H' e' r => h σ' g' H' (e.trans e') r
  | bad => exact h
def tOfS (K : Frag) (E : XQ) (m : M Fl) : TS := fun B σ H => ∃ (G : Hp) (g : Gh) (δ : Sx), RE K G g H σ δ ∧ PostF K E G g (m δ) B
section
variable {K : Frag} {E : XQ} {G : Hp} {g : Gh} {H : Hp} {σ : L2.St} {δ : Sx} {B : Ends}
theorem Cf.stepS {α : Type} {ma : M α} {f : α → M Fl} {R : Hp → α → Gh → Hp → Sx → Prop} (re : RE K G g H σ δ) (po : PostF K E G g (mBind ma f δ) B)
    (k : ∀ a g1 H1 δ1, Le g g1 → RE K G g1 H1 σ δ1 → PostF K E G g1 (f a δ1) B → R G a g1 H1 δ1) : Cf K E ma σ H R := by
  refine ⟨G, g, δ, re, ?_⟩
  unfold mBind at po
  cases h : ma δ with
  | ok a δ1 =>
    rw [h] at po
    exact fun g' H' e r => k a g' H' δ1 e r (PostS.ex po e)
  | exc x δ1 =>
    rw [h] at po
    exact fun g' H' e r => po σ g' H' e r
  | bad =>
    rw [h] at po
    exact po
theorem tOf.stepS {ma : M D} {f : D → M Fl} {R : V → Hp → Prop} (re : RE K G g H σ δ) (po : PostF K E G g (mBind ma f δ) B)
    (k : ∀ v d g1 H1 δ1, Le g g1 → RE K G g1 H1 σ δ1 → Rp K g1.h v d → PostF K E G g1 (f d δ1) B → R v H1) : tOf K E ma σ H R :=
  Cf.stepS re po fun d g1 H1 δ1 e r p v rv => k v d g1 H1 δ1 e r rv p
theorem tOfC.stepS {ma : M Cl} {f : Cl → M Fl} {R : V → Hp → Prop} (re : RE K G g H σ δ) (po : PostF K E G g (mBind ma f δ) B)
    (k : ∀ v c g1 H1 δ1, Le g g1 → RE K G g1 H1 σ δ1 → CR K g1 v c → PostF K E G g1 (f c δ1) B → R v H1) : tOfC K E ma σ H R :=
  Cf.stepS re po fun c g1 H1 δ1 e r p v rv => k v c g1 H1 δ1 e r rv p
theorem tOfL.stepS {ma : M Nat} {f : Nat → M Fl} {R : V → Hp → Prop} (re : RE K G g H σ δ) (po : PostF K E G g (mBind ma f δ) B)
    (k : ∀ a l g1 H1 δ1, Le g g1 → RE K G g1 H1 σ δ1 → g1.r[l]? = some a → PostF K E G g1 (f l δ1) B → R (.ref a) H1) : tOfL K E ma σ H R :=
  Cf.stepS re po fun l g1 H1 δ1 e r p a ha => k a l g1 H1 δ1 e r ha p
theorem PostS.of {fl : Fl} {b : Fl → L2.St → Gh → Hp → Sx → Prop} (po : PostS K E G g (.ok fl δ) b) (re : RE K G g H σ δ) : b fl σ g H δ := po σ g H (Le.refl _) re
end
section
variable {X : Cx} {E : XQ} {a b e o : Expr} {st : Stmt} {rest : List Stmt} {pos : Pos} {m mi : M D} {mc : M Cl} {ml : M Nat} {m1 m2 : M Fl}
def mSeq (m1 m2 : M Fl) : M Fl := fun δ => match m1 δ with
  | .ok .nx δ' => m2 δ'
  | r => r
def mNx : M Fl := mPure .nx
theorem jss_nil : PSs X [] (tOfS X.K E mNx) := pss_imp pss_nil fun B σ H ⟨G, g, δ, re, po⟩ => PostS.of po re
theorem jss_one (h : PS X st (tOfS X.K E m1)) : PSs X [st] (tOfS X.K E m1) := pss_one h
theorem jss_cons (h : PS X st (tOfS X.K E m1)) (t : PSs X rest (tOfS X.K E m2)) : PSs X (st :: rest) (tOfS X.K E (mSeq m1 m2)) :=
  pss_imp (pss_cons h t) fun B σ H ⟨G, g, δ, re, po⟩ => by
    refine ⟨G, g, δ, re, ?_⟩
    unfold mSeq at po
    cases q : m1 δ with
    | ok fl δ1 =>
      rw [q] at po
      cases fl with
      | nx => exact fun σ' g' H' e r => ⟨G, g', δ1, r, PostS.ex po e⟩
      | rt s => exact po
      | bk => exact po
      | ct => exact po
    | exc x δ1 =>
      rw [q] at po
      exact po
    | bad =>
      rw [q] at po
      exact po
def mExpr (m : M Cl) : M Fl := mBind m fun _ => mNx
theorem js_expr (h : PE X e (tOfC X.K E mc)) (hs : swapsWith e none pos.line X.env = pure false := by rfl) : PS X (.Expr e pos) (tOfS X.K E (mExpr mc)) :=
  pst_imp (ps_expr h hs) fun B σ H ⟨G, g, δ, re, po⟩ => tOfC.stepS re po fun v d g1 H1 δ1 e1 re1 r1 po1 => PostS.of po1 re1
def mRet (m : M Cl) : M Fl := mBind m fun c => mPure (.rt c)
theorem js_ret (h : PE X e (tOfC X.K E mc)) : PS X (.Return (some e) pos) (tOfS X.K E (mRet mc)) :=
  pst_imp (ps_ret h) fun B σ H ⟨G, g, δ, re, po⟩ => tOfC.stepS re po fun v d g1 H1 δ1 e1 re1 r1 po1 => PostS.of po1 re1 v r1
def mIfS (t : M Bool) (m1 m2 : M Fl) : M Fl := mBind t fun b => if b then m1 else m2
theorem js_if {c : Expr} {sa sb : List Stmt} {t : M Bool} (hc : PT X c (tOfT X.K E t)) (h1 : PSs X sa (tOfS X.K E m1)) (h2 : PSs X sb (tOfS X.K E m2)) : PS X (.If c sa sb pos) (tOfS X.K E (mIfS t m1 m2)) :=
  pst_imp (ps_if hc h1 h2) fun B σ H ⟨G, g, δ, re, po⟩ => Cf.stepS re po fun b g1 H1 δ1 e1 re1 po1 => by
    cases b with
    | true => exact ⟨G, g1, δ1, re1, po1⟩
    | false => exact ⟨G, g1, δ1, re1, po1⟩
/-- x = e -/
def mSet (i : Nat) (m : M Cl) : M Fl := mBind m fun c => fun δ => .ok .nx ⟨δ.e.set i c, δ.s⟩
theorem js_set {i : Nat} {x : Str} {pos' : Pos} (hN : X.N.Nodup) (hi : X.N[i]? = some x) (hx : Loc X.env.scope x) (h : PE X e (tOfC X.K E mc)) (hs : swapsWith e (some (.Name x pos')) pos.line X.env = pure false := by rfl) (hf : X.fn x = true ∨ X.env.scope.names.lookup x = some .local := by first | exact .inl rfl | exact .inr rfl | assumption) :
    PS X (.Assign [.Name x pos'] e pos) (tOfS X.K E (mSet i mc)) :=
  pst_imp (ps_set hN hi hx h hs hf) fun B σ H ⟨G, g, δ, re, po⟩ => tOfC.stepS re po fun v d g1 H1 δ1 e1 re1 r1 po1 => PostS.of po1 (re1.set r1)
/-- y[i] = e, y a list of the store -/
def mSetIx (ml : M Nat) (mi : M D) (mc : M Cl) : M Fl := mBind mc fun c => mBind ml fun l => mBind mi fun e δ => match δ.s[l]?, e with
  | some (.lst xs), .int n => match ixN xs.length n with
    | some j => .ok .nx ⟨δ.e, δ.s.set l (.lst (xs.set j c))⟩
    | none => .bad
  | _, _ => .bad
theorem js_setIx {p' : Pos} {i v : Expr} (ho : PE X o (tOfL X.K E ml)) (hi : PE X i (tOf X.K E mi)) (he : PE X v (tOfC X.K E mc))
    (ha : ∀ v, assign (.Subscript o i p') X.env v = (do
      let ov ← holding [v] (eval o X.env)
      let iv ← holding [v, ov] (eval i X.env)
      standAt p'
      holding [v, ov, iv] (setItem ov iv v)
      release [v, ov, iv] []) := by intro _; rfl)
    (hs : swapsWithSole [.Subscript o i p'] v pos.line X.env = pure false := by rfl) (hw : swappedStores [.Subscript o i p'] v X.env = pure none := by rfl)
    (h1 : (assignEach [.Subscript o i p'] X.env).map (·.2) = [assign (.Subscript o i p') X.env] := by rfl) : PS X (.Assign [.Subscript o i p'] v pos) (tOfS X.K E (mSetIx ml mi mc)) :=
  pst_imp (ps_asg he (pg_sub ho hi set_list ha) hs hw h1) fun B σ H ⟨G, g, δ, re, po⟩ => by
    refine tOfC.stepS re po fun w c g1 H1 δ1 e1 re1 r1 po1 => ?_
    refine tOfL.stepS re1 po1 fun q l g2 H2 δ2 e2 re2 r2 po2 => ?_
    refine tOf.stepS re2 po2 fun u d g3 H3 δ3 e3 re3 r3 po3 => ?_
    split at po3
    · rename_i xs n hx
      split at po3
      · rename_i j hj
        cases r3
        have ha' := e3.r _ _ r2
        obtain ⟨vs, h1, h2⟩ := re3.lstAt ha' hx
        refine ⟨q, vs, _, j, rfl, rfl, h1, by rw [h2.length]; exact hj, ?_⟩
        exact PostS.of po3 (re3.write hx rfl ha' (.lst (h2.set ((r1.le e2).le e3) j)))
      · exact po3.elim
    · exact po3.elim
theorem RE.ty {K : Frag} {G : Hp} {g : Gh} {H : Hp} {σ : L2.St} {δ : Sx} (re : RE K G g H σ δ) {l : Nat} {q : Addr} {xs : List Cl} (h : g.r[l]? = some q) (hx : δ.s[l]? = some (.lst xs)) : tyV K "list" (.ref q) H := by
  obtain ⟨vs, h1, h2⟩ := re.lstAt h hx
  exact .inl ⟨rfl, vs, .inl (.inl h1)⟩
/-- y.append(e) -/
def isLst (l : Nat) : M Nat := fun δ => match δ.s[l]? with
  | some (.lst _) => .ok l δ
  | _ => .bad
theorem isLst_ok (l : Nat) (δ : Sx) : isLst l δ = .bad ∨ ∃ xs, δ.s[l]? = some (.lst xs) ∧ isLst l δ = .ok l δ := by
  unfold isLst
  split
  · rename_i xs h
    exact .inr ⟨xs, h, rfl⟩
  · exact .inl rfl
def mIsL (ml : M Nat) : M Nat := mBind ml isLst
def mApp (ml : M Nat) (mc : M Cl) : M Fl := mBind (mIsL ml) fun l => mBind mc fun c δ => match δ.s[l]? with
  | some (.lst xs) => if xs.length < sizeLine then .ok .nx ⟨δ.e, δ.s.set l (.lst (xs ++ [c]))⟩ else .bad
  | _ => .bad
theorem isLS {K : Frag} {G : Hp} {g : Gh} {H : Hp} {σ : L2.St} {δ : Sx} {B : Ends} {f : Nat → M Fl} {R : V → Hp → Prop} (re : RE K G g H σ δ) (po : PostF K E G g (mBind (mIsL ml) f δ) B)
    (k : ∀ a l g1 H1 δ1, Le g g1 → RE K G g1 H1 σ δ1 → g1.r[l]? = some a → tyV K "list" (.ref a) H1 → PostF K E G g1 (f l δ1) B → R (.ref a) H1) : tOfL K E ml σ H R := by
  unfold mIsL at po
  rw [bind_assoc] at po
  refine tOfL.stepS re po fun a l g1 H1 δ1 e1 re1 r1 po1 => ?_
  have z : ∃ xs, δ1.s[l]? = some (.lst xs) ∧ PostF K E G g1 (f l δ1) B := by
    unfold mBind at po1
    rcases isLst_ok l δ1 with h | ⟨xs, hx, h⟩
    · rw [h] at po1; exact po1.elim
    · rw [h] at po1; exact ⟨xs, hx, po1⟩
  obtain ⟨xs, hx, po2⟩ := z
  exact k a l g1 H1 δ1 e1 re1 r1 (re1.ty r1 hx) po2
theorem js_app {apos cpos : Pos} {v : Expr} (ho : PE X o (tOfL X.K E ml)) (he : PE X v (tOfC X.K E mc))
    {PE0 : PE X (.Call (.Attribute o "append" apos) [v] [] cpos) (tBM X.K "list" rAppend (tOfL X.K E ml) (tCons (tOfC X.K E mc) tNil))}
    (hs : swapsWith (.Call (.Attribute o "append" apos) [v] [] cpos) none pos.line X.env = pure false := by rfl) : PS X (.Expr (.Call (.Attribute o "append" apos) [v] [] cpos) pos) (tOfS X.K E (mApp ml mc)) :=
  pst_imp (ps_expr PE0 hs) fun B σ H ⟨G, g, δ, re, po⟩ => by
    show tBM _ _ _ _ _ _ _ _
    unfold tBM
    refine isLS re po fun q l g1 H1 δ1 e1 re1 r1 ht po1 => ⟨ht, ?_⟩
    refine tOfC.stepS re1 po1 fun w c g2 H2 δ2 e2 re2 r2 po2 => ?_
    split at po2
    · rename_i xs hx
      split at po2
      · rename_i hl
        have ha' := e2.r _ _ r1
        obtain ⟨vs, h1, h2⟩ := re2.lstAt ha' hx
        refine ⟨q, vs, w, rfl, rfl, h1, by rw [h2.length]; exact hl, ?_⟩
        exact PostS.of po2 (re2.write hx rfl ha' (.lst (h2.snoc r2)))
      · exact po2.elim
    · exact po2.elim
/-- y.pop(i) -/
def mPopAt (ml : M Nat) (mi : M D) : M Cl := mBind (mIsL ml) fun l => mBind mi fun e δ => match δ.s[l]?, e with
  | some (.lst xs), .int n => if 0 ≤ n ∧ n < xs.length ∧ xs.length ≤ sizeLine then match xs[n.toNat]? with
    | some c => .ok c ⟨δ.e, δ.s.set l (.lst (xs.eraseIdx n.toNat))⟩
    | none => .bad
    else .bad
  | _, _ => .bad
theorem isL {K : Frag} {G : Hp} {g : Gh} {H : Hp} {σ : L2.St} {δ : Sx} {β : Type} {QQ : β → Gh → Hp → Sx → Prop} {f : Nat → M β} {R : V → Hp → Prop} (re : RE K G g H σ δ) (po : Post K E G g σ (mBind (mIsL ml) f δ) QQ)
    (k : ∀ a l g1 H1 δ1, Le g g1 → RE K G g1 H1 σ δ1 → g1.r[l]? = some a → tyV K "list" (.ref a) H1 → Post K E G g1 σ (f l δ1) QQ → R (.ref a) H1) : tOfL K E ml σ H R := by
  unfold mIsL at po
  rw [bind_assoc] at po
  refine tOfL.step re po fun a l g1 H1 δ1 e1 re1 r1 po1 => ?_
  have z : ∃ xs, δ1.s[l]? = some (.lst xs) ∧ Post K E G g1 σ (f l δ1) QQ := by
    unfold mBind at po1
    rcases isLst_ok l δ1 with h | ⟨xs, hx, h⟩
    · rw [h] at po1; exact po1.elim
    · rw [h] at po1; exact ⟨xs, hx, po1⟩
  obtain ⟨xs, hx, po2⟩ := z
  exact k a l g1 H1 δ1 e1 re1 r1 (re1.ty r1 hx) po2
theorem jc_popAt {apos cpos : Pos} {v : Expr} (ho : PE X o (tOfL X.K E ml)) (he : PE X v (tOf X.K E mi))
    {PE0 : PE X (.Call (.Attribute o "pop" apos) [v] [] cpos) (tBM X.K "list" rPopAt (tOfL X.K E ml) (tCons (tOf X.K E mi) tNil))} : PE X (.Call (.Attribute o "pop" apos) [v] [] cpos) (tOfC X.K E (mPopAt ml mi)) :=
  pe_imp PE0 fun σ H Q ⟨G, g, δ, re, po⟩ => by
    show tBM _ _ _ _ _ _ _ _
    unfold tBM
    refine isL re po fun q l g1 H1 δ1 e1 re1 r1 ht po1 => ⟨ht, ?_⟩
    refine tOf.step re1 po1 fun w d g2 H2 δ2 e2 re2 r2 po2 => ?_
    split at po2
    · rename_i xs n hx
      split at po2
      · rename_i hn
        split at po2
        · rename_i c hc
          cases r2
          have ha' := e2.r _ _ r1
          obtain ⟨vs, h1, h2⟩ := re2.lstAt ha' hx
          obtain ⟨v', h3, h4⟩ := h2.get hc
          obtain ⟨n0, n1, n2⟩ := hn
          have h2l := h2.length
          have hz : sizeLine = 16777216 := rfl
          refine ⟨q, vs, n, n.toNat, v', rfl, rfl, h1, by omega, by omega, ?_, h3, ?_⟩
          · unfold seqIndex?
            have hj : (if n < 0 then n + (vs.length : Int) else n) = n := if_neg (by omega)
            have n1' : n < (vs.length : Int) := by omega
            simp [hj, n0, n1']
          · exact (po2 g2 _ (Le.refl _) (re2.write hx rfl ha' (.lst (h2.erase n.toNat)))) v' h4
        · exact po2.elim
      · exact po2.elim
    · exact po2.elim
end
end Ds
namespace Ds
open PySem PySem.Spec PyProof.Rows L2 Dn
abbrev MG (α : Type) := α → List Cl → Option (List Cl)
def gOf (K : Frag) (gv : List Nat) (mg : MG Cl) : TG := fun v σ H Q => ∃ (G : Hp) (g : Gh) (δ : Sx) (c : Cl), RE K G g H σ δ ∧ CR K g v c ∧
  ∃ e', mg c δ.e = some e' ∧ ∀ σ', RE K G g H σ' ⟨e', δ.s⟩ → Off gv σ σ' → Q σ' H
def gOfs (K : Frag) (gv : List Nat) (mg : MG (List Cl)) : TGs := fun vs σ H Q => ∃ (G : Hp) (g : Gh) (δ : Sx) (cs : List Cl), RE K G g H σ δ ∧ All2 (CR K g) vs cs ∧
  ∃ e', mg cs δ.e = some e' ∧ ∀ σ', RE K G g H σ' ⟨e', δ.s⟩ → Off gv σ σ' → Q σ' H
section
variable {X : Cx} {E : XQ} {pos : Pos} {e : Expr} {mc : M Cl}
def mgName (i : Nat) : MG Cl := fun c e => some (e.set i c)
theorem jg_name {i : Nat} {x : Str} (hN : X.N.Nodup) (hi : X.N[i]? = some x) (hx : Loc X.env.scope x) (hf : X.fn x = true ∨ X.env.scope.names.lookup x = some .local := by first | exact .inl rfl | exact .inr rfl | assumption) : PG X (.Name x pos) (gOf X.K [i] (mgName i)) :=
  pg_imp (pg_name hN hi hx hf) fun v σ H Q ⟨G, g, δ, c, re, r, e', h, po⟩ => by
    cases h
    exact po _ (re.set r) ⟨by simp, fun j hj => by rw [List.getElem?_set_ne (fun z => hj (by simp [z]))]⟩
def mgNil : MG (List Cl)
  | [], e => some e
  | _ :: _, _ => none
def mgCons (g : MG Cl) (gs : MG (List Cl)) : MG (List Cl)
  | c :: cs, e => (g c e).bind (gs cs)
  | [], _ => none
theorem jgs_nil : PGs X [] (gOfs X.K [] mgNil) := pgs_imp pgs_nil fun vs σ H Q ⟨G, g, δ, cs, re, r, e', h, po⟩ => by
  cases r with
  | nil =>
    cases h
    exact ⟨rfl, po σ re Off.refl⟩
  | cons _ _ => cases h
theorem jgs_cons {t : Expr} {ts : List Expr} {gv gw : List Nat} {mg : MG Cl} {mgs : MG (List Cl)} (h1 : PG X t (gOf X.K gv mg)) (h2 : PGs X ts (gOfs X.K gw mgs)) (hs : (assignEach (t :: ts) X.env).map (·.2) = assign t X.env :: (assignEach ts X.env).map (·.2) := by rfl) : PGs X (t :: ts) (gOfs X.K (gv ++ gw) (mgCons mg mgs)) :=
  pgs_imp (pgs_cons h1 h2 hs) fun vs σ H Q ⟨G, g, δ, cs, re, r, e', h, po⟩ => by
    cases r with
    | nil => cases h
    | cons r1 rs =>
      obtain ⟨e1, h1, h2⟩ := Option.bind_eq_some_iff.mp h
      exact ⟨_, _, rfl, G, g, δ, _, re, r1, e1, h1, fun σ' re' of => ⟨G, g, _, _, re', rs, e', h2, fun σ2 re2 of2 => po σ2 re2 (of.trans of2)⟩⟩
def mgLen (n : Nat) (gs : MG (List Cl)) : MG (List D) := fun ds e => if ds.length = n then gs (ds.map Cl.sh) e else none
def mgTup (n : Nat) (gs : MG (List Cl)) : MG Cl
  | .sh (.tuple ds), e => mgLen n gs ds e
  | _, _ => none
def mgLst (n : Nat) (gs : MG (List Cl)) : MG Cl
  | .sh (.list ds), e => mgLen n gs ds e
  | _, _ => none
theorem mgLen_some {n : Nat} {gs : MG (List Cl)} {ds : List D} {e e' : List Cl} (h : mgLen n gs ds e = some e') : ds.length = n ∧ gs (ds.map Cl.sh) e = some e' := by
  unfold mgLen at h
  by_cases hl : ds.length = n
  · rw [if_pos hl] at h; exact ⟨hl, h⟩
  · rw [if_neg hl] at h; cases h
theorem jg_tup {ts : List Expr} {k n : Nat} {gv : List Nat} {mgs : MG (List Cl)} (hc : X.calm = true) (h : PGs X ts (gOfs X.K gv mgs)) (hn : (assignEach ts X.env).length = n := by rfl) (hst : (assignEach ts X.env).findIdx? (·.1) = none := by rfl) : PG X (.Tuple ts k pos) (gOf X.K gv (mgTup n mgs)) :=
  pg_imp (pg_tup (n := n) hc h hn hst) fun v σ H Q ⟨G, g, δ, c, re, r, e', h, po⟩ => by
    cases r with
    | lo _ => cases h
    | sh r =>
      cases r with
      | tup h1 t =>
        obtain ⟨hl, h2⟩ := mgLen_some h
        exact ⟨_, _, rfl, sqT_ex re.ex h1, by rw [t.length]; exact hl, G, g, δ, _, re, rps_cr t, e', h2, po⟩
      | _ => cases h
theorem jg_lst {ts : List Expr} {k n : Nat} {gv : List Nat} {mgs : MG (List Cl)} (hc : X.calm = true) (h : PGs X ts (gOfs X.K gv mgs)) (hn : (assignEach ts X.env).length = n := by rfl) (hst : (assignEach ts X.env).findIdx? (·.1) = none := by rfl) : PG X (.Tuple ts k pos) (gOf X.K gv (mgLst n mgs)) :=
  pg_imp (pg_unl (n := n) hc h hn hst) fun v σ H Q ⟨G, g, δ, c, re, r, e', h, po⟩ => by
    cases r with
    | lo _ => cases h
    | sh r =>
      cases r with
      | lst h1 t =>
        obtain ⟨hl, h2⟩ := mgLen_some h
        exact ⟨_, _, rfl, sqL_ex re.ex h1, by rw [t.length]; exact hl, G, g, δ, _, re, rps_cr t, e', h2, po⟩
      | _ => cases h
/-- targets = e -/
def mAsg (mg : MG Cl) (m : M Cl) : M Fl := mBind m fun c δ => match mg c δ.e with
  | some e' => .ok .nx ⟨e', δ.s⟩
  | none => .bad
theorem js_asg {tg : Expr} {gv : List Nat} {mg : MG Cl} (h : PE X e (tOfC X.K E mc)) (hg : PG X tg (gOf X.K gv mg)) (hs : swapsWithSole [tg] e pos.line X.env = pure false := by rfl) (hw : swappedStores [tg] e X.env = pure none := by rfl)
    (h1 : (assignEach [tg] X.env).map (·.2) = [assign tg X.env] := by rfl) : PS X (.Assign [tg] e pos) (tOfS X.K E (mAsg mg mc)) :=
  pst_imp (ps_asg h hg hs hw h1) fun B σ H ⟨G, g, δ, re, po⟩ => tOfC.stepS re po fun v c g1 H1 δ1 e1 re1 r1 po1 => by
    split at po1
    · rename_i e' he
      exact ⟨G, g1, δ1, c, re1, r1, e', he, fun σ' re' _ => po1 σ' g1 H1 (Le.refl _) re'⟩
    · exact po1.elim
end
def ItOk (K : Frag) (Hs : Hp) (J : It) (ds : List D) : Prop := ∀ Hs1 H1, Ex Hs Hs1 → Ex Hs1 H1 → ∀ i : Nat,
  (∀ d, ds[i]? = some d → J.go i H1 ∧ ∀ x H2, J.yld i H1 x H2 → ∃ Hs2, Gs Hs1 H1 Hs2 H2 ∧ Rp K Hs2 x d) ∧ (ds[i]? = none → J.stop i H1)
theorem ItOk.of {K : Frag} {Hs : Hp} {J : It} {ds : List D} (h : Dn.ItOk K Hs J ds) : ItOk K Hs J ds := fun Hs1 H1 e1 e2 i => ⟨fun d hd => ⟨((h Hs1 H1 e1 e2 i).1 d hd).1, fun x H2 y => by
  obtain ⟨Hs2, g, r⟩ := ((h Hs1 H1 e1 e2 i).1 d hd).2 x H2 y
  exact ⟨Hs2, .of g, r⟩⟩, (h Hs1 H1 e1 e2 i).2⟩
def tOfI (K : Frag) (E : XQ) (m : M (List D)) : TI := fun σ H R => Cf K E m σ H fun _ ds g' H' _ => ∀ J, ItOk K g'.h J ds → R J H'
section
variable {X : Cx} {E : XQ} {tg e : Expr} {pos : Pos} {m : M D}
def mIter (m : M D) : M (List D) := mBind m fun d => mOpt (dItems d)
theorem ji_any (h : PE X e (tOf X.K E m)) : PI X tg e (tOfI X.K E (mIter m)) :=
  pi_imp (pi_anyR h) fun σ H R ⟨G, g, δ, re, po⟩ => tOf.step re po fun v d g1 H1 δ1 e1 re1 r1 po1 => by
    obtain ⟨ds, hd, po2⟩ := Post.opt po1
    cases r1 with
    | lst h t =>
      obtain rfl := Option.some.inj hd
      exact .inl ⟨_, rfl, ⟨_, sqL_ex re1.ex h⟩, Post.of po2 re1 _ (.of (it_list h t))⟩
    | tup h t =>
      obtain rfl := Option.some.inj hd
      exact .inr (.inl ⟨_, rfl, ⟨_, sqT_ex re1.ex h⟩, Post.of po2 re1 _ (.of (it_tup h t))⟩)
    | str z =>
      obtain rfl := Option.some.inj hd
      exact .inr (.inr ⟨z, rfl, Post.of po2 re1 _ (.of it_str)⟩)
    | _ => simp [dItems] at hd
def mRng1 (m : M D) : M (List D) := mBind m fun d => mOpt (bRng1 d)
def mRng2 (ma mb : M D) : M (List D) := mBind ma fun d => mBind mb fun e => mOpt (bRng2 d e)
theorem ji_range1 {a : Expr} {p : Pos} {ma : M D} (hg : Gl X "range") (hm : X.mg "range" = none) (ha : PE X a (tOf X.K E ma)) (hs : starEach [a] X.env = [(false, eval a X.env)] := by rfl) : PI X tg (.Call (.Name "range" p) [a] [] pos) (tOfI X.K E (mRng1 ma)) :=
  pi_imp (pi_range1 hg hm (pa_cons ha pa_nil hs) hs) fun σ H R ⟨G, g, δ, re, po⟩ => tOf.step re po fun v d g1 H1 δ1 e1 re1 r1 po1 => by
    obtain ⟨ds, hd, po2⟩ := Post.opt po1
    cases r1 with
    | int j =>
      simp only [bRng1, Option.ite_none_right_eq_some, Option.some.injEq] at hd
      obtain ⟨hl, hd⟩ := hd
      subst hd
      have hl' := of_decide_eq_true hl
      exact ⟨j, rfl, hl'.1, hl'.2, Post.of po2 re1 _ (.of it_rng)⟩
    | _ => simp [bRng1] at hd
def forL (mg : MG Cl) (mb : M Fl) : List D → M Fl
  | [] => mNx
  | d :: ds => fun δ => match mg (.sh d) δ.e with
    | some e' => match mb ⟨e', δ.s⟩ with
      | .ok .nx δ2 => forL mg mb ds δ2
      | .ok .ct δ2 => forL mg mb ds δ2
      | .ok .bk δ2 => .ok .nx δ2
      | .ok (.rt s) δ2 => .ok (.rt s) δ2
      | .exc x δ2 => .exc x δ2
      | .bad => .bad
    | none => .bad
def mFor (mi : M (List D)) (mg : MG Cl) (mb : M Fl) : M Fl := mBind mi (forL mg mb)
theorem js_for {iter : Expr} {body : List Stmt} {mi : M (List D)} {gv : List Nat} {mg : MG Cl} {mb : M Fl} (hpa : PassesOwn (model X.prog X.w) X.A X.env X.xe) (hc : X.calm = true) (hi : PI X tg iter (tOfI X.K E mi)) (hg : PG X tg (gOf X.K gv mg)) (hb : PSs X body (tOfS X.K E mb))
    (hs : ∀ x, foldedSetIterable iter X.env x = pure x := by intro _; rfl) : PS X (.For tg iter body [] pos) (tOfS X.K E (mFor mi mg mb)) :=
  pst_imp (ps_for hpa hc hi hg hb hs) fun B σ H ⟨G, g, δ, re, po⟩ => Cf.stepS re po fun ds g1 H1 δ1 e1 re1 po1 J hJ => by
    refine ⟨fun i m σ' H' => m = ds.length - i ∧ i ≤ ds.length ∧ ∃ g2 δ2, Le g1 g2 ∧ RE X.K G g2 H' σ' δ2 ∧ PostF X.K E G g2 (forL mg mb (ds.drop i) δ2) B, ⟨ds.length, rfl, Nat.zero_le _, g1, δ1, Le.refl _, re1, po1⟩, ?_⟩
    rintro i m σ' H' ⟨hm, hi, g2, δ2, e2, re2, po2⟩
    obtain ⟨j1, j2⟩ := hJ g2.h H' e2.h re2.ex i
    by_cases hlt : i < ds.length
    · have hd : ds[i]? = some ds[i] := List.getElem?_eq_getElem hlt
      obtain ⟨k1, k2⟩ := j1 _ hd
      refine .inr ⟨k1, fun σ3 H3 => ∃ g3 δ3, Le g1 g3 ∧ RE X.K G g3 H3 σ3 δ3 ∧ PostF X.K E G g3 (forL mg mb (ds.drop (i + 1)) δ3) B, fun σ3 H3 ⟨g3, δ3, e3, re3, po3⟩ => ⟨ds.length - (i + 1), by omega, rfl, hlt, g3, δ3, e3, re3, po3⟩, fun x H3 y => ?_⟩
      obtain ⟨Hs3, gr, rx⟩ := k2 x H3 y
      have w := Grw.ofS gr
      have re3 := re2.grow w
      have po3 := PostS.ex po2 w.le
      rw [List.drop_eq_getElem_cons hlt] at po3
      unfold forL at po3
      cases q : mg (.sh ds[i]) δ2.e with
      | some e' =>
        rw [q] at po3
        refine ⟨G, _, δ2, _, re3, .sh rx, e', q, fun σ4 re4 _ => ⟨G, _, _, re4, ?_⟩⟩
        dsimp only at po3
        have ea := e2.trans w.le
        cases z : mb ⟨e', δ2.s⟩ with
        | ok fl δ5 =>
          rw [z] at po3
          cases fl with
          | nx => exact fun σ5 g5 H5 e5 re5 => ⟨g5, δ5, ea.trans e5, re5, PostS.ex po3 e5⟩
          | ct => exact fun σ5 g5 H5 e5 re5 => ⟨g5, δ5, ea.trans e5, re5, PostS.ex po3 e5⟩
          | bk => exact fun σ5 g5 H5 e5 re5 => po3 σ5 g5 H5 e5 re5
          | rt s => exact fun σ5 g5 H5 e5 re5 => po3 σ5 g5 H5 e5 re5
        | exc x δ5 =>
          rw [z] at po3
          exact fun σ5 g5 H5 e5 re5 => po3 σ5 g5 H5 e5 re5
        | bad => rw [z] at po3; exact po3
      | none => rw [q] at po3; exact po3.elim
    · have e : i = ds.length := by omega
      subst e
      rw [List.drop_length] at po2
      exact .inl ⟨j2 (List.getElem?_eq_none_iff.mpr (Nat.le_refl _)), PostS.of po2 re2⟩
end
def wipeE (e : List Cl) : List Nat → List Cl
  | [] => e
  | v :: vs => (wipeE e vs).set v .no
def backE (e1 e2 : List Cl) : List Nat → List Cl
  | [] => e2
  | v :: vs => (backE e1 e2 vs).set v (e1.getD v .no)
theorem wipeE_length (δ : List Cl) : ∀ vs, (wipeE δ vs).length = δ.length
  | [] => rfl
  | v :: vs => by unfold wipeE; rw [List.length_set, wipeE_length δ vs]
theorem backE_length (δ1 δ2 : List Cl) : ∀ vs, (backE δ1 δ2 vs).length = δ2.length
  | [] => rfl
  | v :: vs => by unfold backE; rw [List.length_set, backE_length δ1 δ2 vs]
theorem wipeE_in {δ : List Cl} {i : Nat} {s : Cl} : ∀ {vs : List Nat}, i ∈ vs → (wipeE δ vs)[i]? = some s → s = .no
  | v :: vs, h, q => by
    unfold wipeE at q
    rcases setGet q with ⟨_, z⟩ | ⟨hj, z⟩
    · exact z
    · rcases List.mem_cons.mp h with e | h
      · exact absurd e hj
      · exact wipeE_in h z
theorem wipeE_out {δ : List Cl} {i : Nat} : ∀ {vs : List Nat}, i ∉ vs → (wipeE δ vs)[i]? = δ[i]?
  | [], _ => rfl
  | v :: vs, h => by
    unfold wipeE
    have hne : v ≠ i := fun z => h (by simp [z])
    rw [List.getElem?_set_ne hne]
    exact wipeE_out fun z => h (List.mem_cons_of_mem _ z)
theorem backE_in {δ1 δ2 : List Cl} {i : Nat} {s : Cl} : ∀ {vs : List Nat}, i ∈ vs → (backE δ1 δ2 vs)[i]? = some s → s = δ1.getD i .no
  | v :: vs, h, q => by
    unfold backE at q
    rcases setGet q with ⟨hv, z⟩ | ⟨hj, z⟩
    · rw [hv]; exact z
    · rcases List.mem_cons.mp h with e | h
      · exact absurd e hj
      · exact backE_in h z
theorem backE_out {δ1 δ2 : List Cl} {i : Nat} : ∀ {vs : List Nat}, i ∉ vs → (backE δ1 δ2 vs)[i]? = δ2[i]?
  | [], _ => rfl
  | v :: vs, h => by
    unfold backE
    have hne : v ≠ i := fun z => h (by simp [z])
    rw [List.getElem?_set_ne hne]
    exact backE_out fun z => h (List.mem_cons_of_mem _ z)
section
variable {K : Frag} {G : Hp} {g g' : Gh} {H H' : Hp} {σ : L2.St} {δ δ' : Sx} {vs : List Nat}
theorem RE.wipe (re : RE K G g H σ δ) : RE K G g H (L2.wipe σ vs) ⟨wipeE δ.e vs, δ.s⟩ := by
  have r1 : RE K G g H σ ⟨wipeE δ.e vs, δ.s⟩ := re.less (wipeE_length δ.e vs) (fun i s q => by
    by_cases hi : i ∈ vs
    · exact .inl (wipeE_in hi q)
    · rw [wipeE_out hi] at q; exact .inr q)
  refine r1.sig (L2.wipe_length σ vs) fun i s q hn => ?_
  by_cases hi : i ∈ vs
  · exact absurd (wipeE_in hi q) hn
  · exact L2.wipe_out hi
/-- behind a block: its own names are as they were ahead of it -/
theorem RE.back (re : RE K G g H σ δ) (re2 : RE K G g' H' (L2.wipe σ vs) δ') (e : Le g g') : RE K G g' H' σ ⟨backE δ.e δ'.e vs, δ'.s⟩ :=
  re2.slots (by rw [backE_length, ← re2.len, L2.wipe_length]) fun i c q hc => by
    by_cases hi : i ∈ vs
    · have z := backE_in hi q
      have hg : δ.e[i]? = some c := by
        rw [List.getD_eq_getElem?_getD] at z
        cases w : δ.e[i]? with
        | none => rw [w] at z; exact absurd z hc
        | some s => rw [w] at z; exact congrArg some z.symm
      obtain ⟨v, h1, h2⟩ := re.sl i c hg hc
      exact ⟨v, h1, h2.le e⟩
    · rw [backE_out hi] at q
      obtain ⟨v, h1, h2⟩ := re2.sl i c q hc
      rw [L2.wipe_out hi] at h1
      exact ⟨v, h1, h2⟩
/-- a list in the making is lent out to nobody -/
theorem RE.hide {C : Addr} {xs : List Cl} {acc : List V} (re : RE K G g H σ δ) (f : FrO K G g H C xs) (ha : H C = some (.lst acc)) : RE K (upd G C (.lst acc)) g H σ δ where
  ex := re.ex
  fg := fun a o q => by
    by_cases e : a = C
    · subst e
      rw [upd_same] at q
      cases q
      exact ⟨ha, f.hs, f.nr⟩
    · rw [upd_ne e] at q
      exact re.fg a o q
  len := re.len
  rl := re.rl
  sl := re.sl
  ob := re.ob
  nd := re.nd
  al := re.al
  nt := fun a ys q => by
    have e : a ≠ C := fun z => by subst z; rw [ha] at q; cases q
    rw [upd_ne e]
    exact re.nt a ys q
  fz := re.fz
theorem RE.shown {C : Addr} {o u : HO} (re : RE K (upd G C o) g H σ δ) (hg : G C = none) : RE K G g (upd H C u) σ δ where
  ex := fun a o' q => by
    have h := (re.fg C o upd_same).2.1
    have e : a ≠ C := fun z => by rw [z, h] at q; cases q
    rw [upd_ne e]
    exact re.ex a o' q
  fg := fun a o' q => by
    have e : a ≠ C := fun z => by rw [z, hg] at q; cases q
    rw [upd_ne e]
    exact re.fg a o' (by rw [upd_ne e]; exact q)
  len := re.len
  rl := re.rl
  sl := re.sl
  ob := fun l o' q w => by
    obtain ⟨a, u', h1, h2, h3, h4⟩ := re.ob l o' q w
    have e : a ≠ C := fun z => (re.fg C o upd_same).2.2 (z ▸ List.mem_of_getElem? h1)
    exact ⟨a, u', h1, by rw [upd_ne e]; exact h2, h3, h4⟩
  nd := re.nd
  al := fun a ha => by
    by_cases e : a = C
    · subst e; rw [upd_same]; simp
    · rw [upd_ne e]; exact re.al a ha
  nt := fun a ys q => by
    by_cases e : a = C
    · subst e; exact ⟨(re.fg a o upd_same).2.2, hg⟩
    · rw [upd_ne e] at q
      have := re.nt a ys q
      rw [upd_ne e] at this
      exact this
  fz := re.fz
end
def mWipe (vs : List Nat) : M Unit := fun δ => .ok () ⟨wipeE δ.e vs, δ.s⟩
def compL (vs : List Nat) (mg : MG Cl) (mt : M Bool) (me : M D) : List D → M (List D)
  | [] => mPure []
  | d :: ds => fun δ => match mg (.sh d) δ.e with
    | some e' => mBind mt (fun b => if b then mBind me (fun y => mBind (mWipe vs) fun _ => mBind (compL vs mg mt me ds) fun ys => mPure (y :: ys)) else mBind (mWipe vs) fun _ => compL vs mg mt me ds) ⟨e', δ.s⟩
    | none => .bad
def compE (vs : List Nat) (mg : MG Cl) (mt : M Bool) (me : M D) (ds : List D) : M (List Cl) := fun δ =>
  if ds.length ≤ sizeLine then
    match compL vs mg mt me ds ⟨wipeE δ.e vs, δ.s⟩ with
    | .ok ys δ2 => .ok (ys.map Cl.sh) ⟨backE δ.e δ2.e vs, δ2.s⟩
    | _ => .bad
  else .bad
def mComp (mi : M (List D)) (vs : List Nat) (mg : MG Cl) (mt : M Bool) (me : M D) : M (List Cl) := mBind mi (compE vs mg mt me)
def mYes : M Bool := mPure true
end Ds
namespace Ds
open PySem PySem.Spec PyProof.Rows L2 Dn
section
variable {X : Cx} {E : XQ} {tg e elt iter : Expr} {ifs : List Expr} {pos : Pos} {vs gv : List Nat} {mi : M (List D)} {mg : MG Cl} {mt : M Bool} {me : M D}
/-- what a comprehension's block makes, read off its parts -/
theorem lc_read (hgv : ∀ i ∈ gv, i ∈ vs) {σ : L2.St} {H : Hp} {Q : VK} (h : tOfO X.K E (mComp mi vs mg mt me) σ H Q) :
    tLc (tOfI X.K E mi) (gOf X.K gv mg) (tOfT X.K noX mt) (tOf X.K noX me) vs σ H Q := by
  obtain ⟨G, g, δ, re, po⟩ := h
  refine Cf.step re po fun ds g1 H1 δ1 e1 re1 po1 J hJ C hC => ?_
  unfold compE at po1
  split at po1
  · rename_i hlen
    cases hcl : compL vs mg mt me ds ⟨wipeE δ1.e vs, δ1.s⟩ with
    | ok ys δf =>
      rw [hcl] at po1
      have en : Ex H1 (upd H1 C (.lst [])) := ex_new hC
      have gC : G C = none := by
        cases q : G C with
        | none => rfl
        | some u => have := (re1.fg C u q).1; rw [hC] at this; cases this
      have re2 := (re1.newH en).wipe (vs := vs)
      have f0 : FrO X.K G g1 (upd H1 C (.lst [])) C [] := FrO.new re1 hC .nil
      refine ⟨fun i m H' => m = ds.length - i ∧ i ≤ ds.length ∧ ∃ g2 δ2 done ys2, Le g1 g2 ∧ RE X.K G g2 H' (L2.wipe σ vs) δ2 ∧ FrO X.K G g2 H' C (done.map Cl.sh) ∧ done.length ≤ i ∧ compL vs mg mt me (ds.drop i) δ2 = .ok ys2 δf ∧ done ++ ys2 = ys,
        ⟨ds.length, rfl, Nat.zero_le _, g1, _, [], ys, Le.refl _, re2, f0, Nat.le_refl _, hcl, rfl⟩, ?_⟩
      rintro i m H' ⟨hm, hi, g2, δ2, done, ys2, e2, re3, f3, hdl, hc3, hys⟩
      obtain ⟨j1, j2⟩ := hJ g2.h H' e2.h re3.ex i
      by_cases hlt : i < ds.length
      · have hd : ds[i]? = some ds[i] := List.getElem?_eq_getElem hlt
        obtain ⟨k1, k2⟩ := j1 _ hd
        refine .inr ⟨k1, fun H3 => ∃ g3 δ3 done ys2, Le g1 g3 ∧ RE X.K G g3 H3 (L2.wipe σ vs) δ3 ∧ FrO X.K G g3 H3 C (done.map Cl.sh) ∧ done.length ≤ i + 1 ∧ compL vs mg mt me (ds.drop (i + 1)) δ3 = .ok ys2 δf ∧ done ++ ys2 = ys,
          fun H3 hN => ⟨ds.length - (i + 1), by omega, rfl, hlt, hN⟩, fun x H3 y => ?_⟩
        obtain ⟨Hs3, gr, rx⟩ := k2 x H3 y
        have w := Grw.ofS gr
        obtain ⟨acc, ha, hr⟩ := f3.at_
        have re4 := re3.grow w
        have z3 : Hs3 C = none := by
          rcases gr.f C (by rw [ha]; simp) with z | ⟨ys, z⟩
          · rw [z]; exact f3.hs
          · rw [ha] at z; cases z
        have f4 : FrO X.K G ⟨g2.r, Hs3⟩ H3 C (done.map Cl.sh) := ⟨⟨acc, gr.h C _ ha, CRs.le w.le hr⟩, z3, f3.gg, f3.nr⟩
        have re5 := re4.hide f4 (gr.h C _ ha)
        rw [List.drop_eq_getElem_cons hlt] at hc3
        unfold compL at hc3
        cases q : mg (.sh ds[i]) δ2.e with
        | some e' =>
          rw [q] at hc3
          refine ⟨upd G C (.lst acc), ⟨g2.r, Hs3⟩, δ2, _, re5, .sh rx, e', q, fun σ4 re6 of4 => ⟨wipe_off of4 hgv, ?_⟩⟩
          dsimp only at hc3
          -- a turn's end: the names wiped, the list as it is then
          have turn : ∀ {g5 : Gh} {H5 : Hp} {δ5 : Sx} {u : HO}, RE X.K (upd G C (.lst acc)) g5 H5 σ4 δ5 → RE X.K G g5 (upd H5 C u) (L2.wipe σ vs) ⟨wipeE δ5.e vs, δ5.s⟩ ∧ g5.h C = none ∧ H5 C = some (.lst acc) ∧ C ∉ g5.r := fun {g5 H5 δ5 u} re7 => by
            have rw7 := re7.wipe (vs := vs)
            rw [wipe_off of4 hgv] at rw7
            have hf := re7.fg C (.lst acc) upd_same
            exact ⟨rw7.shown gC, hf.2.1, hf.1, hf.2.2⟩
          have ew := e2.trans w.le
          refine ⟨_, _, ⟨e', δ2.s⟩, re6, ?_⟩
          cases zt : mt ⟨e', δ2.s⟩ with
          | ok b δ5 =>
            rw [show mBind mt _ ⟨e', δ2.s⟩ = _ from by unfold mBind; rw [zt]] at hc3
            dsimp only at hc3
            refine fun g5 H5 e5 re7 => ?_
            cases b with
            | true =>
              rw [if_pos rfl] at hc3 ⊢
              refine ⟨_, g5, δ5, re7, ?_⟩
              cases ze : me δ5 with
              | ok yv δ6 =>
                rw [ze] at hc3
                refine fun g6 H6 e6 re8 v rv => ?_
                obtain ⟨t1, t3, t4, t5⟩ := turn (u := .lst (acc ++ [v])) re8
                have hal : acc.length = done.length := by rw [hr.length, List.length_map]
                refine ⟨acc, t4, by omega, ?_⟩
                have hc4 : mBind (compL vs mg mt me (ds.drop (i + 1))) (fun ys => mPure (yv :: ys)) ⟨wipeE δ6.e vs, δ6.s⟩ = .ok ys2 δf := hc3
                cases zr : compL vs mg mt me (ds.drop (i + 1)) ⟨wipeE δ6.e vs, δ6.s⟩ with
                | ok ys3 δ7 =>
                  unfold mBind at hc4
                  rw [zr] at hc4
                  have hc5 : Res.ok (yv :: ys3) δ7 = Res.ok ys2 δf := hc4
                  injection hc5 with k1 k2
                  subst k1; subst k2
                  have e16 : Le g1 g6 := (ew.trans e5).trans e6
                  refine ⟨g6, _, done ++ [yv], ys3, e16, t1, ⟨⟨acc ++ [v], upd_same, ?_⟩, t3, gC, t5⟩, by simp; exact hdl, zr, by rw [← hys]; simp⟩
                  rw [List.map_append]
                  exact (CRs.le ((w.le.trans e5).trans e6) hr).snoc (.sh rv)
                | exc x δ7 => unfold mBind at hc4; rw [zr] at hc4; cases hc4
                | bad => unfold mBind at hc4; rw [zr] at hc4; cases hc4
              | exc x δ6 => rw [ze] at hc3; cases hc3
              | bad => rw [ze] at hc3; cases hc3
            | false =>
              rw [if_neg Bool.false_ne_true] at hc3 ⊢
              obtain ⟨t1, t3, t4, t5⟩ := turn (u := .lst acc) re7
              have hu : upd H5 C (.lst acc) = H5 := by
                funext b
                by_cases hb : b = C
                · subst hb; rw [upd_same, t4]
                · rw [upd_ne hb]
              rw [hu] at t1
              have hc4 : compL vs mg mt me (ds.drop (i + 1)) ⟨wipeE δ5.e vs, δ5.s⟩ = .ok ys2 δf := hc3
              exact ⟨g5, _, done, ys2, ew.trans e5, t1, ⟨⟨acc, t4, CRs.le (w.le.trans e5) hr⟩, t3, gC, t5⟩, by omega, hc4, hys⟩
          | exc x δ5 => rw [show mBind mt _ ⟨e', δ2.s⟩ = _ from by unfold mBind; rw [zt]] at hc3; cases hc3
          | bad => rw [show mBind mt _ ⟨e', δ2.s⟩ = _ from by unfold mBind; rw [zt]] at hc3; cases hc3
        | none => rw [q] at hc3; cases hc3
      · have ei : i = ds.length := by omega
        subst ei
        rw [List.drop_length] at hc3
        have hc4 : Res.ok ([] : List D) δ2 = Res.ok ys2 δf := hc3
        injection hc4 with k1 k2
        subst k1; subst k2
        rw [List.append_nil] at hys
        subst hys
        refine .inl ⟨j2 (List.getElem?_eq_none_iff.mpr (Nat.le_refl _)), ?_⟩
        exact po1 g2 H' e2 (re1.back re3 e2) C f3
    | exc x δf => rw [hcl] at po1; exact po1.elim
    | bad => rw [hcl] at po1; exact po1.elim
  · exact po1.elim
theorem jts_nil : PTs X [] (tOfT X.K E mYes) := ⟨fun pins s σ H Q I ⟨G, g, δ, re, po⟩ => pts_nil.run pins s σ H Q I (Post.of po re)⟩
theorem jts_one {c : Expr} (h : PT X c (tOfT X.K E mt)) : PTs X [c] (tOfT X.K E mt) := pts_one h
theorem jo_comp {scope : Scope} {own : List (Str × Nat)} (hgv : ∀ i ∈ gv, i ∈ own.map (·.2)) (hc : X.calm = true) (hN : X.N.Nodup) (hi : PI X tg iter (tOfI X.K E mi)) (ok : BlkOk X.N X.env.scope scope own)
    (hg : ∀ (s : Shared) (H : Hp) (C : Addr) (cl : List (Str × Addr)) (fp : List Addr), PG (X.blk s H scope (compEnvC scope cl C X.env) fp) tg (gOf X.K gv mg)) (ht : ∀ (s : Shared) (H : Hp) (C : Addr) (cl : List (Str × Addr)) (fp : List Addr), PTs (X.blk s H scope (compEnvC scope cl C X.env) fp) ifs (tOfT X.K noX mt))
    (he : ∀ (s : Shared) (H : Hp) (C : Addr) (cl : List (Str × Addr)) (fp : List Addr), PE (X.blk s H scope (compEnvC scope cl C X.env) fp) elt (tOf X.K noX me)) (hs : ∀ x, foldedSetIterable iter X.env x = pure x := by intro _; rfl) :
    PE X (.ListComp elt [⟨tg, iter, ifs, 0⟩] scope pos) (tOfO X.K E (mComp mi (own.map (·.2)) mg mt me)) :=
  pe_imp (pe_lc hc hN hi ok hg ht he hs) fun σ H Q h => lc_read hgv h
/-- y = [..] on one line -/
theorem js_lc {i : Nat} {y : Str} {py : Pos} {scope : Scope} {own : List (Str × Nat)} {spos : Pos} {mc : M (List Cl) → M Cl} (hgv : ∀ i ∈ gv, i ∈ own.map (·.2)) (hc : X.calm = true) (hN : X.N.Nodup) (hy : X.N[i]? = some y) (hyl : X.env.scope.names.lookup y = some .local)
    (hmc : ∀ (m : M (List Cl)) (σ : L2.St) (H : Hp) (Q : VK), tOfC X.K E (mc m) σ H Q → tOfO X.K E m σ H Q)
    (hsw : swapsWith (.ListComp elt [⟨tg, iter, ifs, 0⟩] scope pos) (some (.Name y py)) spos.line X.env = pure true) (hi : PI X tg iter (tOfI X.K E mi)) (ok : BlkOk X.N X.env.scope scope own)
    (hg : ∀ (s : Shared) (H : Hp) (C : Addr) (cl : List (Str × Addr)) (fp : List Addr), PG (X.blk s H scope (compEnvC scope cl C X.env) fp) tg (gOf X.K gv mg)) (ht : ∀ (s : Shared) (H : Hp) (C : Addr) (cl : List (Str × Addr)) (fp : List Addr), PTs (X.blk s H scope (compEnvC scope cl C X.env) fp) ifs (tOfT X.K noX mt))
    (he : ∀ (s : Shared) (H : Hp) (C : Addr) (cl : List (Str × Addr)) (fp : List Addr), PE (X.blk s H scope (compEnvC scope cl C X.env) fp) elt (tOf X.K noX me)) (hs : ∀ x, foldedSetIterable iter X.env x = pure x := by intro _; rfl) :
    PS X (.Assign [.Name y py] (.ListComp elt [⟨tg, iter, ifs, 0⟩] scope pos) spos) (tOfS X.K E (mSet i (mc (mComp mi (own.map (·.2)) mg mt me)))) :=
  pst_imp (ps_setLc hc hN hy hyl hsw hi ok hg ht he hs) fun B σ H ⟨G, g, δ, re, po⟩ => lc_read hgv (hmc _ _ _ _ (tOfC.stepS re po fun v c g1 H1 δ1 e1 re1 r1 po1 => PostS.of po1 (re1.set r1)))
/-- .. as data, as one of the store's -/
theorem frO {m : M (List Cl)} {σ : L2.St} {H : Hp} {Q : VK} (h : tOf X.K E (mFr m) σ H Q) : tOfO X.K E m σ H Q := by
  obtain ⟨G, g, δ, re, po⟩ := h
  refine tOfO.step re po fun a xs g1 H1 δ1 e1 re1 f1 po1 => ?_
  obtain ⟨d, hd, po2⟩ := Post.opt po1
  obtain ⟨ds, h1, h2⟩ := Option.map_eq_some_iff.mp hd
  subst h2
  obtain ⟨g2, k1, _, k2, k3⟩ := re1.freeze f1 h1
  exact po2 g2 H1 k1 k2 _ k3
theorem shO {m : M D} {σ : L2.St} {H : Hp} {Q : VK} (h : tOfC X.K E (mSh m) σ H Q) : tOf X.K E m σ H Q := by
  obtain ⟨G, g, δ, re, po⟩ := h
  exact tOf.step re po fun v d g1 H1 δ1 e1 re1 r1 po1 => Post.of po1 re1 v (.sh r1)
theorem loO {m : M Nat} {σ : L2.St} {H : Hp} {Q : VK} (h : tOfC X.K E (mLo m) σ H Q) : tOfL X.K E m σ H Q := by
  obtain ⟨G, g, δ, re, po⟩ := h
  exact tOfL.step re po fun a l g1 H1 δ1 e1 re1 r1 po1 => Post.of po1 re1 _ (.lo r1)
theorem newO {m : M (List Cl)} {σ : L2.St} {H : Hp} {Q : VK} (h : tOfL X.K E (mNew m) σ H Q) : tOfO X.K E m σ H Q := by
  obtain ⟨G, g, δ, re, po⟩ := h
  refine tOfO.step re po fun a xs g1 H1 δ1 e1 re1 f1 po1 => ?_
  obtain ⟨g2, k1, k2⟩ := allS re1 f1.fro po1
  exact k1 a k2
theorem mc_fr (m : M (List Cl)) (σ : L2.St) (H : Hp) (Q : VK) (h : tOfC X.K E (mSh (mFr m)) σ H Q) : tOfO X.K E m σ H Q := frO (shO h)
theorem mc_new (m : M (List Cl)) (σ : L2.St) (H : Hp) (Q : VK) (h : tOfC X.K E (mLo (mNew m)) σ H Q) : tOfO X.K E m σ H Q := newO (loO h)
end
inductive RF where
  | ok (c : Cl) (s : List Ob)
  | exc (y : Exn) (s : List Ob)
  | bad
abbrev Fn := List Cl → List Ob → RF
def Cl.below (n : Nat) : Cl → Bool
  | .lo l => decide (l < n)
  | _ => true
def Ob.below (n : Nat) : Ob → Bool
  | .gone => true
  | .lst xs => xs.all (Cl.below n)
  | .dk kvs => kvs.all fun p => p.2.below n
  | .dt kvs => kvs.all fun p => p.2.below n
  | .ft kvs => kvs.all fun p => p.2.below n
  | .ins _ fs => fs.all fun p => p.2.below n
/-- what a def has made for itself is forgotten behind it, where nothing reaches it -/
def trim (n : Nat) (c : Cl) (s : List Ob) : List Ob := if (c.below n && (s.take n).all (Ob.below n)) = true then s.take n else s
def fnF (n N : Nat) (mb : M Fl) : Fn := fun as s => if as.length = n then match mb ⟨as ++ List.replicate (N - n) .no, s⟩ with
  | .ok (.rt c) δ' => .ok c (trim s.length c δ'.s)
  | .ok .nx δ' => .ok (.sh .none) (trim s.length (.sh .none) δ'.s)
  | .exc x δ' => .exc x δ'.s
  | _ => .bad
  else .bad
def spF (K : Frag) (n : Nat) (F : Fn) : Sp := fun vs H Q E => vs.length = n ∧ ∃ (G : Hp) (g : Gh) (as : List Cl) (s : List Ob), RE K G g H [] ⟨[], s⟩ ∧ All2 (CR K g) vs as ∧
  match F as s with
  | .ok c s' => ∀ g' H', Le g g' → RE K G g' H' [] ⟨[], s'⟩ → ∀ v, CR K g' v c → Q v H'
  | .exc x s' => False
  | .bad => False
section
variable {K : Frag} {G : Hp} {g g' : Gh} {H H' : Hp} {σ : L2.St} {δ δ' : Sx}
theorem CR.cut {n : Nat} {v : V} {c : Cl} (h : CR K g v c) (hb : c.below n = true) : CR K ⟨g.r.take n, g.h⟩ v c := by
  cases h with
  | sh h => exact .sh h
  | lo h =>
    refine .lo ?_
    have : _ < n := of_decide_eq_true hb
    show (g.r.take n)[_]? = _
    rw [List.getElem?_take_of_lt this]
    exact h
theorem ObR.cut {n : Nat} {o : Ob} {u : HO} (h : ObR K g o u) (hb : o.below n = true) : ObR K ⟨g.r.take n, g.h⟩ o u := by
  have f : ∀ {κ : Type} {vs : List (κ × V)} {xs : List (κ × Cl)}, All2 (fun p q => p.1 = q.1 ∧ CR K g p.2 q.2) vs xs → (xs.all fun p => p.2.below n) = true → All2 (fun p q => p.1 = q.1 ∧ CR K ⟨g.r.take n, g.h⟩ p.2 q.2) vs xs := fun {κ vs xs} t hb =>
    t.imp_mem fun a b m r => ⟨r.1, r.2.cut (List.all_eq_true.mp hb b m)⟩
  cases h with
  | lst t => exact .lst (t.imp_mem fun a b m r => r.cut (List.all_eq_true.mp hb b m))
  | dk t => exact .dk (f t hb)
  | dt t => exact .dt (f t hb)
  | ins c t => exact .ins c (f t hb)
theorem RE.trim {c : Cl} {v : V} {n : Nat} (r : RE K G g H [] ⟨[], δ.s⟩) (hn : n ≤ δ.s.length) (hc : CR K g v c) : ∃ g', g'.h = g.h ∧ (∀ l a, l < n → g.r[l]? = some a → g'.r[l]? = some a) ∧ RE K G g' H [] ⟨[], Ds.trim n c δ.s⟩ ∧ CR K g' v c := by
  unfold Ds.trim
  split
  · rename_i hb
    rw [Bool.and_eq_true] at hb
    obtain ⟨h1, h2⟩ := hb
    refine ⟨⟨g.r.take n, g.h⟩, rfl, fun l a hl h => ?_, ?_, hc.cut h1⟩
    · show (g.r.take n)[l]? = some a
      rw [List.getElem?_take_of_lt hl]
      exact h
    · exact {
        ex := r.ex
        fg := fun a o q => by
          obtain ⟨a1, a2, a3⟩ := r.fg a o q
          exact ⟨a1, a2, fun z => a3 (List.mem_of_mem_take z)⟩
        len := rfl
        rl := by
          have : g.r.length = δ.s.length := r.rl
          simp [this]
        sl := fun i c q => by simp at q
        ob := fun l o q hl => by
          have q : (δ.s.take n)[l]? = some o := q
          have hln : l < n := by
            have := (List.getElem?_eq_some_iff.mp q).1
            simp at this
            omega
          rw [List.getElem?_take_of_lt hln] at q
          obtain ⟨a, u, b1, b2, b3, b4⟩ := r.ob l o q hl
          refine ⟨a, u, ?_, b2, b3.cut ?_, b4⟩
          · show (g.r.take n)[l]? = some a
            rw [List.getElem?_take_of_lt hln]
            exact b1
          · refine List.all_eq_true.mp h2 o ?_
            refine List.mem_of_getElem? (i := l) ?_
            rw [List.getElem?_take_of_lt hln]
            exact q
        nd := (List.take_sublist n g.r).nodup r.nd
        al := fun a ha => r.al a (List.mem_of_mem_take ha)
        nt := fun a ys q => ⟨fun z => (r.nt a ys q).1 (List.mem_of_mem_take z), (r.nt a ys q).2⟩
        fz := fun l kvs q => by
          have q : (δ.s.take n)[l]? = some (.ft kvs) := q
          have hln : l < n := by
            have := (List.getElem?_eq_some_iff.mp q).1
            simp at this
            omega
          have hm : Ob.below n (.ft kvs) = true := List.all_eq_true.mp h2 _ (List.mem_of_getElem? q)
          rw [List.getElem?_take_of_lt hln] at q
          obtain ⟨a, o, vs, b1, b2, b3⟩ := r.fz l kvs q
          refine ⟨a, o, vs, ?_, b2, b3.imp_mem fun a b m z => ⟨z.1, z.2.cut (List.all_eq_true.mp hm b m)⟩⟩
          show (g.r.take n)[l]? = some a
          rw [List.getElem?_take_of_lt hln]
          exact b1 }
  · exact ⟨g, rfl, fun l a _ h => h, r, hc⟩
theorem RE.start {vs : List V} {as : List Cl} {s : List Ob} (r : RE K G g H [] ⟨[], s⟩) (t : All2 (CR K g) vs as) (k : Nat) : RE K G g H (vs.map some ++ List.replicate k none) ⟨as ++ List.replicate k .no, s⟩ :=
  r.slots (by simp [t.length]) fun i c q hc => by
    by_cases hi : i < as.length
    · rw [List.getElem?_append_left hi] at q
      obtain ⟨v, h1, h2⟩ := t.get q
      have hiv : i < (vs.map some).length := by rw [List.length_map, t.length]; exact hi
      exact ⟨v, by rw [List.getElem?_append_left hiv, List.getElem?_map, h1]; rfl, h2⟩
    · rw [List.getElem?_append_right (by omega), List.getElem?_replicate] at q
      split at q
      · cases q; exact absurd rfl hc
      · cases q
end
theorem trim_le {n : Nat} {c : Cl} {s : List Ob} (h : n ≤ s.length) : n ≤ (trim n c s).length := by
  unfold trim
  split
  · rw [List.length_take]; omega
  · exact h
section
variable {P : Program} {w : World} {K : Frag} {mg : Str → Option Value} {base : Heap}
/-- a def keeps its promise: by its body as a run upon data -/
theorem fn_J {x qual : Str} {st : Stmt} {f : Addr} {fd : FuncData} {N pr : List Str} {k n nN : Nat} {mb : M Fl} (F : Fun K x qual st f fd) (S : FnScope N pr (defScope st)) (hn : pr.length = n) (hN : N.length = nN) (hle : n ≤ nN)
    (hbody : ∀ (cdv : Value) (A : Around) (outer : List PySem.Env) (s : Shared) (H : Hp) (E : XK), Room k (A.deeper (envOfC qual (defScope st) s.heap.objs.size f cdv)) →
      PSs (cxOf CX0 P w K mg base N qual (defScope st) f cdv A outer s H E).nox (defBody st) (tOfS K noX mb)) : FnOk P w K mg base CX0 (k + 1) f fd pr (spF K n (fnF n nN mb)) := by
  refine F.ok S (fun vs H Q E h => by rw [h.1, hn]) fun cdv A outer s H vs Q E hr h => ⟨_, hbody cdv A outer s H E hr, ?_⟩
  obtain ⟨hl, G, g, as, st0, re, t, po⟩ := h
  have hst : L2.start N vs = vs.map some ++ List.replicate (nN - n) none := by unfold L2.start; rw [hN, hl]
  refine ⟨G, g, ⟨as ++ List.replicate (nN - n) .no, st0⟩, by rw [hst]; exact re.start t _, ?_⟩
  have hal : as.length = n := by rw [← t.length, hl]
  unfold fnF at po
  rw [if_pos hal] at po
  have grl : g.r.length = st0.length := re.rl
  have fin : ∀ {c : Cl} {δ' : Sx} {σ' : L2.St} {g' : Gh} {H' : Hp} {v : V}, (∀ g' H', Le g g' → RE K G g' H' [] ⟨[], trim st0.length c δ'.s⟩ → ∀ v, CR K g' v c → Q v H') → Le g g' → RE K G g' H' σ' δ' → CR K g' v c → Q v H' := fun {c δ' σ' g' H' v} k e r hc => by
    have hn' : st0.length ≤ δ'.s.length := by
      rw [← r.rl, ← grl]
      by_cases h0 : g.r.length = 0
      · omega
      · have := (List.getElem?_eq_some_iff.mp (e.r (g.r.length - 1) _ (List.getElem?_eq_getElem (by omega)))).1
        omega
    obtain ⟨g2, a1, a2, a3, a4⟩ := RE.trim (δ := δ') (n := st0.length) r.bare hn' hc
    refine k g2 H' ⟨fun l a h => a2 l a ?_ (e.r l a h), by rw [a1]; exact e.h⟩ a3 v a4
    have := (List.getElem?_eq_some_iff.mp h).1
    omega
  cases q : mb ⟨as ++ List.replicate (nN - n) .no, st0⟩ with
  | ok fl δ' =>
    rw [q] at po
    cases fl with
    | nx => exact fun σ' g' H' e r => fin po e r (.sh .non)
    | rt c => exact fun σ' g' H' e r v rv => fin po e r rv
    | bk => exact po.elim
    | ct => exact po.elim
  | exc x δ' => rw [q] at po; exact po.elim
  | bad => rw [q] at po; exact po.elim
end
def mCall (F : Fn) (as : List (M Cl)) : M Cl := mBind (evA as) fun cs δ => match F cs δ.s with
  | .ok c s' => .ok c ⟨δ.e, s'⟩
  | .exc x s' => .bad
  | .bad => .bad
section
variable {X : Cx} {E : XQ} {E0 : XK} {F : Fn} {as : List (M Cl)} {k n : Nat} {f : Addr} {fd : FuncData} {pr : List Str} {x : Str} {e : Expr} {es : List Expr} {p pos : Pos}
theorem call_read (hn : as.length = n) {σ : L2.St} {H : Hp} {Q : VK} (h : tOfC X.K E (mCall F as) σ H Q) : tCall (spF X.K n F) [] E0 (tOfA X.K E (evA as)) σ H Q := by
  obtain ⟨G, g, δ, re, po⟩ := h
  have hlen : ∀ (as : List (M Cl)) (δ : Sx) (cs : List Cl) (δ' : Sx), evA as δ = .ok cs δ' → cs.length = as.length := fun as => by
    induction as with
    | nil => intro δ cs δ' h; cases h; rfl
    | cons m as ih =>
      intro δ cs δ' h
      unfold evA mBind at h
      cases q : m δ with
      | ok c δ1 =>
        rw [q] at h
        dsimp only at h
        cases q2 : evA as δ1 with
        | ok cs2 δ2 =>
          rw [q2] at h
          have h : Res.ok (c :: cs2) δ2 = Res.ok cs δ' := h
          injection h with h1 h2
          subst h1
          rw [List.length_cons, List.length_cons, ih _ _ _ q2]
        | exc y δ2 => rw [q2] at h; cases h
        | bad => rw [q2] at h; cases h
      | exc y δ1 => rw [q] at h; cases h
      | bad => rw [q] at h; cases h
  unfold mCall at po
  have po' := po
  unfold mBind at po'
  cases qa : evA as δ with
  | ok cs0 δ0 =>
    have hl := hlen _ _ _ _ qa
    rw [qa] at po'
    refine ⟨G, g, δ, re, ?_⟩
    rw [qa]
    intro g1 H1 e1 re1 vs r1
    have po1 := Post.ex po' e1
    rw [List.append_nil]
    dsimp only at po1
    refine ⟨by rw [r1.length, hl, hn], G, g1, cs0, δ0.s, re1.bare, r1, ?_⟩
    cases q : F cs0 δ0.s with
    | ok c s' =>
      rw [q] at po1
      exact fun g' H' e r v rv => po1 g' H' e (re1.lift e r) v rv
    | exc y s' => rw [q] at po1; exact po1.elim
    | bad => rw [q] at po1; exact po1.elim
  | exc y δ0 =>
    rw [qa] at po'
    refine ⟨G, g, δ, re, ?_⟩
    rw [qa]
    exact po'
  | bad => rw [qa] at po'; exact po'.elim
theorem jc_call (G : FnOk X.prog X.w X.K X.mg X.base CX0 k f fd pr (spF X.K n F)) (hn : as.length = n) (hr : Room k X.A) (hg : Gl X x) (hm : X.mg x = some (.ref f)) (hk : PySem.W.keepIn X.K (.ref f) = true) (hb : Binds X.K fd pr []) (ha : PA X (e :: es) (tOfA X.K E (evA as)))
    (hdb : (x == ("__debug__" : Str)) = false := by decide) (he : starEach (e :: es) X.env = (false, eval e X.env) :: starEach es X.env := by rfl) (hpl : (backTo pos (starEach es X.env)).any (·.1) = false := by rfl) : PE X (.Call (.Name x p) (e :: es) [] pos) (tOfC X.K E (mCall F as)) :=
  pe_imp (pe_call G hr hg hm hk hb .nil pass0 ha hdb he hpl) fun _ _ _ h => call_read hn h
theorem nil_read {K : Frag} {σ : L2.St} {H : Hp} {R : List V → Hp → Prop} (h : tOfA K E (evA []) σ H R) : R [] H := by
  obtain ⟨G, g, δ, re, po⟩ := h
  exact Post.of po re [] .nil
/-- a def that calls itself: none of its turns is left -/
theorem fn_bad {P : Program} {w : World} {K : Frag} {mg : Str → Option Value} {base : Heap} {k n : Nat} {f : Addr} {fd : FuncData} {pr : List Str} (hn : pr.length = n) : FnOk P w K mg base CX0 k f fd pr (spF K n fun _ _ => .bad) :=
  ⟨fun vs H Q E h => by rw [h.1, hn], fun A outer s H args us vs Q E _ _ _ _ h => by
    obtain ⟨_, _, _, _, _, _, _, h⟩ := h
    exact h.elim⟩
end
end Ds
namespace Ds
open PySem PySem.Spec PyProof.Rows L2 Dn
section
variable {κ : Type} [DecidableEq κ]
def valC (kvs : List (κ × Cl)) (k : κ) : Option Cl := (kvs.find? fun kv => decide (kv.1 = k)).map (·.2)
def putC (kvs : List (κ × Cl)) (k : κ) (c : Cl) : List (κ × Cl) := if (kvs.any fun kv => decide (kv.1 = k)) = true then kvs.map (fun kv => if kv.1 = k then (kv.1, c) else kv) else kvs ++ [(k, c)]
def dropC (kvs : List (κ × Cl)) (k : κ) : List (κ × Cl) := kvs.filter fun kv => decide (kv.1 ≠ k)
def mergeC (kvs more : List (κ × Cl)) : List (κ × Cl) := more.foldl (fun acc kv => putC acc kv.1 kv.2) kvs
abbrev KR (K : Frag) (g : Gh) : List (κ × V) → List (κ × Cl) → Prop := All2 fun p q => p.1 = q.1 ∧ CR K g p.2 q.2
variable {K : Frag} {g : Gh}
theorem KR.val {vs : List (κ × V)} {cs : List (κ × Cl)} (r : KR K g vs cs) (k : κ) : (valC cs k = none ∧ valV vs k = none) ∨ ∃ v c, valC cs k = some c ∧ valV vs k = some v ∧ CR K g v c := by
  induction r with
  | nil => exact .inl ⟨rfl, rfl⟩
  | @cons p q ps qs h t ih =>
    by_cases e : q.1 = k
    · refine .inr ⟨p.2, q.2, ?_, ?_, h.2⟩
      · simp [valC, List.find?_cons, e]
      · exact valV_pos (h.1.trans e)
    · have e1 : valC (q :: qs) k = valC qs k := by simp [valC, List.find?_cons, e]
      have e2 : valV (p :: ps) k = valV ps k := valV_neg (by rw [h.1]; exact e)
      rw [e1, e2]
      exact ih
theorem KR.some {vs : List (κ × V)} {cs : List (κ × Cl)} (r : KR K g vs cs) {k : κ} {c : Cl} (h : valC cs k = some c) : ∃ v, valV vs k = some v ∧ CR K g v c := by
  rcases r.val k with ⟨a, _⟩ | ⟨v, c', a, b, d⟩
  · rw [a] at h; cases h
  · rw [a] at h; cases h; exact ⟨v, b, d⟩
theorem KR.isSome {vs : List (κ × V)} {cs : List (κ × Cl)} (r : KR K g vs cs) (k : κ) : (valV vs k).isSome = (valC cs k).isSome := by
  rcases r.val k with ⟨a, b⟩ | ⟨v, c', a, b, d⟩ <;> rw [a, b] <;> rfl
theorem KR.any {vs : List (κ × V)} {cs : List (κ × Cl)} (r : KR K g vs cs) (k : κ) : (vs.any fun kv => decide (kv.1 = k)) = cs.any fun kv => decide (kv.1 = k) := by
  induction r with
  | nil => rfl
  | @cons p q ps qs h t ih => rw [List.any_cons, List.any_cons, ih, h.1]
theorem KR.put {vs : List (κ × V)} {cs : List (κ × Cl)} (r : KR K g vs cs) (k : κ) {v : V} {c : Cl} (h : CR K g v c) : KR K g (putK vs k v) (putC cs k c) := by
  unfold putK putC
  rw [r.any k]
  have z : KR K g (vs.map fun kv => if kv.1 = k then (kv.1, v) else kv) (cs.map fun kv => if kv.1 = k then (kv.1, c) else kv) := by
    induction r with
    | nil => exact .nil
    | @cons p q ps qs h' t ih =>
      rw [List.map_cons, List.map_cons]
      refine .cons ?_ ih
      by_cases e : q.1 = k
      · rw [if_pos e, if_pos (h'.1.trans e)]; exact ⟨h'.1, h⟩
      · rw [if_neg e, if_neg (by rw [h'.1]; exact e)]; exact h'
  split
  · exact z
  · exact All2.snoc r ⟨rfl, h⟩
theorem KR.drop {vs : List (κ × V)} {cs : List (κ × Cl)} (r : KR K g vs cs) (k : κ) : KR K g (dropK vs k) (dropC cs k) := by
  unfold dropK dropC
  induction r with
  | nil => exact .nil
  | @cons p q ps qs h t ih =>
    rw [List.filter_cons, List.filter_cons]
    by_cases e : q.1 = k
    · rw [if_neg (by simp [h.1.trans e]), if_neg (by simp [e])]; exact ih
    · rw [if_pos (by simpa [h.1] using e), if_pos (by simpa using e)]; exact .cons h ih
end
theorem KR.merge {K : Frag} {g : Gh} {ms : List (Key × V)} {ns : List (Key × Cl)} (h : KR K g ms ns) : ∀ {vs : List (Key × V)} {cs : List (Key × Cl)}, KR K g vs cs → KR K g (mergeK vs ms) (mergeC cs ns) := by
  induction h with
  | nil => exact fun r => r
  | @cons p q ps qs h t ih =>
    intro vs cs r
    have z := r.put q.1 h.2
    have e : putK vs p.1 p.2 = putK vs q.1 p.2 := by rw [h.1]
    show KR K g (mergeK (putK vs p.1 p.2) ps) (mergeC (putC cs q.1 q.2) qs)
    rw [e]
    exact ih z
def toK : D → Option Key
  | .int i => some (.inl i)
  | .str x => some (.inr x)
  | _ => none
theorem toK_v {K : Frag} {H : Hp} {v : V} {d : D} {k : Key} (r : Rp K H v d) (h : toK d = some k) : v = kV k := by
  cases r <;> simp [toK] at h <;> subst h <;> rfl
theorem RE.dkAt {K : Frag} {G : Hp} {g : Gh} {H : Hp} {σ : L2.St} {δ : Sx} (r : RE K G g H σ δ) {l : Nat} {a : Addr} {xs : List (Key × Cl)} (h : g.r[l]? = some a) (hx : δ.s[l]? = some (.dk xs)) : ∃ vs, H a = some (.dK vs) ∧ KR K g vs xs := by
  obtain ⟨b, u, h1, h2, h3, h4⟩ := r.ob l _ hx rfl
  rw [h] at h1
  cases h1
  cases h3 with
  | dk h3 => exact ⟨_, h2, h3⟩
section
variable {X : Cx} {E : XQ} {a b e o f : Expr} {pos : Pos} {m mk mx : M D} {mc : M Cl} {ml : M Nat} {m1 m2 : M Fl}
/-- d[k] -/
def mDGet (ml : M Nat) (mk : M D) : M Cl := mBind ml fun l => mBind mk fun e δ => match δ.s[l]?, toK e with
  | some (.dk kvs), some k => match valC kvs k with
    | some c => .ok c δ
    | none => .bad
  | _, _ => .bad
theorem jc_dget (hu : X.A.units + 64 < cLine) (ho : PE X o (tOfL X.K E ml)) (hi : PE X e (tOf X.K E mk)) (hs : NoSl e) : PE X (.Subscript o e pos) (tOfC X.K E (mDGet ml mk)) :=
  pe_imp (pe_dget (by omega) ho hi hs) fun σ H Q ⟨G, g, δ, re, po⟩ => tOfL.step re po fun q l g1 H1 δ1 e1 re1 r1 po1 => tOf.step re1 po1 fun y d g2 H2 δ2 e2 re2 r2 po2 => by
    split at po2
    · rename_i kvs k hx hk
      split at po2
      · rename_i c hc
        obtain ⟨vs, h1, h2⟩ := re2.dkAt (e2.r _ _ r1) hx
        obtain ⟨v, h3, h4⟩ := h2.some hc
        refine ⟨q, v, rfl, ?_, Post.of po2 re2 v h4⟩
        rw [toK_v r2 hk, ← h3]
        exact DGet.k h1
      · exact po2.elim
    · exact po2.elim
def isDk (l : Nat) : M Nat := fun δ => match δ.s[l]? with
  | some (.dk _) => .ok l δ
  | _ => .bad
theorem isDk_ok (l : Nat) (δ : Sx) : isDk l δ = .bad ∨ ∃ xs, δ.s[l]? = some (.dk xs) ∧ isDk l δ = .ok l δ := by
  unfold isDk
  split
  · rename_i xs h
    exact .inr ⟨xs, h, rfl⟩
  · exact .inl rfl
theorem isDk_poF {K : Frag} {G : Hp} {g : Gh} {δ : Sx} {l : Nat} {B : Ends} {f : Nat → M Fl} (po : PostF K E G g (mBind (isDk l) f δ) B) : ∃ xs, δ.s[l]? = some (.dk xs) ∧ PostF K E G g (f l δ) B := by
  unfold mBind at po
  rcases isDk_ok l δ with h | ⟨xs, hx, h⟩
  · rw [h] at po; exact po.elim
  · rw [h] at po; exact ⟨xs, hx, po⟩
def mDGet2 (ml : M Nat) (mk : M D) (mc : M Cl) : M Cl := mBind ml fun l => mBind (isDk l) fun l => mBind mk fun e => mBind mc fun z δ => match δ.s[l]?, toK e with
  | some (.dk kvs), some k => .ok ((valC kvs k).getD z) δ
  | _, _ => .bad
/-- d[k] = x -/
def mDPut (ml : M Nat) (mk : M D) (mc : M Cl) : M Fl := mBind mc fun c => mBind ml fun l => mBind mk fun e δ => match δ.s[l]?, toK e with
  | some (.dk kvs), some k => if kvs.length < sizeLine then .ok .nx ⟨δ.e, δ.s.set l (.dk (putC kvs k c))⟩ else .bad
  | _, _ => .bad
theorem js_dput {pos' : Pos} {v : Expr} (hu : X.A.units + 64 < cLine) (ho : PE X o (tOfL X.K E ml)) (hi : PE X e (tOf X.K E mk)) (hv : PE X v (tOfC X.K E mc)) (hs : swapsWith v (some (.Subscript o e pos')) pos.line X.env = pure false := by rfl) : PS X (.Assign [.Subscript o e pos'] v pos) (tOfS X.K E (mDPut ml mk mc)) :=
  pst_imp (ps_dput (by omega) ho hi hv hs) fun B σ H ⟨G, g, δ, re, po⟩ => tOfC.stepS re po fun w c g1 H1 δ1 e1 re1 r1 po1 => tOfL.stepS re1 po1 fun q l g2 H2 δ2 e2 re2 r2 po2 => tOf.stepS re2 po2 fun y d g3 H3 δ3 e3 re3 r3 po3 => by
    split at po3
    · rename_i kvs k hx hk
      split at po3
      · rename_i hl
        have ha := e3.r _ _ r2
        obtain ⟨vs, h1, h2⟩ := re3.dkAt ha hx
        refine ⟨q, _, rfl, ?_, PostS.of po3 (re3.write hx rfl ha (.dk (h2.put k ((r1.le e2).le e3))))⟩
        rw [toK_v r3 hk]
        exact DPut.k h1 (by rw [h2.length]; exact hl)
      · exact po3.elim
    · exact po3.elim
/-- k in d, k not in d -/
def mDIn (neg : Bool) (mk : M D) (ml : M Nat) : M D := mBind mk fun e => mBind ml fun l δ => match δ.s[l]?, toK e with
  | some (.dk kvs), some k => .ok (.bool (if neg then !(valC kvs k).isSome else (valC kvs k).isSome)) δ
  | _, _ => .bad
/-- {} -/
def mDNew : M Nat := mAll (.dk [])
theorem Fro.new {K : Frag} {G : Hp} {g : Gh} {H : Hp} {σ : L2.St} {δ : Sx} {p : Addr} {o : Ob} {u : HO} (re : RE K G g H σ δ) (hp : H p = none) (h : ObR K g o u) : Fro K G g (upd H p u) p o :=
  ⟨⟨u, upd_same, h⟩, ex_none re.ex hp, (by
    cases q : G p with
    | none => rfl
    | some u => have := (re.fg p u q).1; rw [hp] at this; cases this), re.nin hp⟩
theorem jl_dnew : PE X (.Dict [] [] pos) (tOfL X.K E mDNew) :=
  pe_imp pe_dnewK fun σ H Q ⟨G, g, δ, re, po⟩ p hp => by
    obtain ⟨g2, k1, k2⟩ := allS (re.newH (ex_new hp)) (Fro.new re hp (.dk .nil)) po
    exact k1 p k2
/-- {k: x, ..} -/
def evP : List (M D × M Cl) → M (List (Key × Cl))
  | [] => mPure []
  | (mk, mc) :: r => mBind mk fun e => mBind (mOpt (toK e)) fun k => mBind mc fun c => mBind (evP r) fun ps => mPure ((k, c) :: ps)
def mDisp (ps : List (M D × M Cl)) : M Nat := mBind (evP ps) fun kvs => mBind (mOpt (if kvs.length ≤ 15 then some () else none)) fun _ => mAll (.dk (mergeC [] kvs))
/-- something fresh that is nobody's, lent out to nobody -/
theorem RE.hide' {K : Frag} {G : Hp} {g : Gh} {H : Hp} {σ : L2.St} {δ : Sx} {C : Addr} {u : HO} (re : RE K G g H σ δ) (ha : H C = some u) (hs : g.h C = none) (nr : C ∉ g.r) (hu : ∀ xs, u ≠ .tup xs) : RE K (upd G C u) g H σ δ where
  ex := re.ex
  fg := fun a o q => by
    by_cases e : a = C
    · subst e
      rw [upd_same] at q
      cases q
      exact ⟨ha, hs, nr⟩
    · rw [upd_ne e] at q
      exact re.fg a o q
  len := re.len
  rl := re.rl
  sl := re.sl
  ob := re.ob
  nd := re.nd
  al := re.al
  nt := fun a ys q => by
    have e : a ≠ C := fun z => by subst z; rw [ha] at q; cases q; exact hu ys rfl
    rw [upd_ne e]
    exact re.nt a ys q
  fz := re.fz
inductive PPJ (X : Cx) (E : XQ) (pos : Pos) : List (Option Expr) → List Expr → List (TE × TE) → List (M D × M Cl) → Prop where
  | nil : PPJ X E pos [] [] [] []
  | cons {k v : Expr} {ks : List (Option Expr)} {vs : List Expr} {trs : List (TE × TE)} {ps : List (M D × M Cl)} {mk : M D} {mc : M Cl} : PE X k (tOf X.K E mk) → PE X v (tOfC X.K E mc) → PPJ X E pos ks vs trs ps → PPJ X E pos (some k :: ks) (v :: vs) ((tOf X.K E mk, tOfC X.K E mc) :: trs) ((mk, mc) :: ps)
theorem PPJ.pps {X : Cx} {E : XQ} {pos : Pos} {ks : List (Option Expr)} {vs : List Expr} {trs : List (TE × TE)} {ps : List (M D × M Cl)} (h : PPJ X E pos ks vs trs ps) : PPs X pos ks vs trs := by
  induction h with
  | nil => exact pps_nil
  | cons h1 h2 _ ih => exact pps_cons h1 h2 ih
theorem PPJ.all {X : Cx} {E : XQ} {pos : Pos} {ks : List (Option Expr)} {vs : List Expr} {trs : List (TE × TE)} {ps : List (M D × M Cl)} (h : PPJ X E pos ks vs trs ps) : ks.all (·.isSome) = true ∧ ks.length = vs.length := by
  induction h with
  | nil => exact ⟨rfl, rfl⟩
  | cons h1 h2 _ ih => exact ⟨by rw [List.all_cons, ih.1]; rfl, by rw [List.length_cons, List.length_cons, ih.2]⟩
theorem PPJ.read {X : Cx} {E : XQ} {pos : Pos} {ks : List (Option Expr)} {vs : List Expr} {trs : List (TE × TE)} {ps : List (M D × M Cl)} (h : PPJ X E pos ks vs trs ps) : ∀ {G : Hp} {g : Gh} {H : Hp} {σ : L2.St} {δ : Sx} {β : Type} {f : List (Key × Cl) → M β} {QQ : β → Gh → Hp → Sx → Prop} {R : List (V × V) → Hp → Prop}, RE X.K G g H σ δ → Post X.K E G g σ (mBind (evP ps) f δ) QQ →
    (∀ kvs cs g1 H1 δ1, Le g g1 → RE X.K G g1 H1 σ δ1 → KR X.K g1 kvs cs → Post X.K E G g1 σ (f cs δ1) QQ → R (kvs.map fun kv => (kV kv.1, kv.2)) H1) → tPairs trs σ H R := by
  induction h with
  | nil =>
    intro G g H σ δ β f QQ R re po k
    exact k [] [] g H δ (Le.refl _) re .nil po
  | @cons ek ev ks vs trs ps mk mc h1 h2 _ ih =>
    intro G g H σ δ β f QQ R re po k
    unfold evP at po
    rw [bind_assoc] at po
    refine tOf.step re po fun x d g1 H1 δ1 e1 re1 r1 po1 => ?_
    rw [bind_assoc] at po1
    obtain ⟨kk, hk, po2⟩ := Post.optB po1
    rw [bind_assoc] at po2
    refine tOfC.step re1 po2 fun y c g2 H2 δ2 e2 re2 r2 po3 => ?_
    rw [bind_assoc] at po3
    refine ih re2 po3 fun kvs cs g3 H3 δ3 e3 re3 r3 po4 => ?_
    have := k ((kk, y) :: kvs) ((kk, c) :: cs) g3 H3 δ3 ((e1.trans e2).trans e3) re3 (.cons ⟨rfl, r2.le e3⟩ r3) po4
    rw [List.map_cons] at this
    rw [toK_v r1 hk]
    exact this
theorem jl_disp {ks : List (Option Expr)} {vs : List Expr} {trs : List (TE × TE)} {ps : List (M D × M Cl)} (h : PPJ X E pos ks vs trs ps) (h0 : ks ≠ []) (h15 : ks.length ≤ 15) : PE X (.Dict ks vs pos) (tOfL X.K E (mDisp ps)) :=
  pe_imp (pe_disp h.pps h.all.1 h.all.2 h0 h15) fun σ H Q ⟨G, g, δ, re, po⟩ p hp => by
    have en : Ex H (upd H p (.dK [])) := ex_new hp
    have f := Fro.new (o := .dk []) re hp (.dk .nil)
    have re1 := (re.newH en).hide' (C := p) (u := .dK []) upd_same f.hs f.nr (fun _ z => nomatch z)
    have po' : Post X.K E (upd G p (.dK [])) g σ (mBind (evP ps) (fun kvs => mPure kvs) δ) fun kvs g' H' δ' => ∃ g2 H2 δ2, RE X.K (upd G p (.dK [])) g' H' σ δ' ∧ (∀ u, RE X.K G g' u σ δ' → Post X.K E G g' σ (mBind (mOpt (if kvs.length ≤ 15 then some () else none)) (fun _ => mAll (.dk (mergeC [] kvs))) δ') fun l g' H' _ => ∀ a, g'.r[l]? = some a → Q (.ref a) H') ∧ g2 = g' ∧ H2 = H' ∧ δ2 = δ' := by
      unfold mDisp at po
      unfold mBind at po ⊢
      cases q : evP ps δ with
      | ok kvs δ1 =>
        rw [q] at po
        exact fun g' H' e r => ⟨g', H', δ1, r, fun u _ => Post.ex po e, rfl, rfl, rfl⟩
      | exc x δ1 =>
        rw [q] at po
        intro g' H' e r
        have hr := r.shown (u := .dK []) (C := p) f.gg
        have z := po g' _ e hr
        have hu : upd H' p (.dK []) = H' := by
          funext b
          by_cases hb : b = p
          · subst hb; rw [upd_same]; exact ((r.fg b _ upd_same).1).symm
          · rw [upd_ne hb]
        rw [hu] at z
        exact z
      | bad => rw [q] at po; exact po
    refine h.read re1 po' fun kvs cs g2 H2 δ2 e2 re2 r2 po2 => ?_
    obtain ⟨_, _, _, re3, po3, _⟩ := po2 g2 H2 (Le.refl _) re2
    have hf := re2.fg p _ upd_same
    refine ⟨hf.1, kvs, rfl, ?_, ?_⟩
    · have := po3 _ (re2.shown (u := .dK []) f.gg)
      obtain ⟨_, h1, _⟩ := Post.optB this
      split at h1
      · rename_i hl
        rw [r2.length]; exact hl
      · cases h1
    · have re4 := re2.shown (u := .dK (mergeK [] kvs)) f.gg
      obtain ⟨_, h1, po4⟩ := Post.optB (po3 _ re4)
      have fr : Fro X.K G g2 (upd H2 p (.dK (mergeK [] kvs))) p (.dk (mergeC [] cs)) := ⟨⟨_, upd_same, .dk (KR.merge r2 .nil)⟩, hf.2.1, f.gg, hf.2.2⟩
      obtain ⟨g5, k1, k2⟩ := allS re4 fr po4
      exact k1 p k2
/-- d.update(other) -/
def rUpd : V → List V → Hp → VK → Prop := fun x xs H Q => ∃ (a b : Addr) (kvs more : List (Key × V)), x = .ref a ∧ xs = [.ref b] ∧ a ≠ b ∧ H a = some (.dK kvs) ∧ H b = some (.dK more) ∧ kvs.length + more.length ≤ sizeLine ∧ Q .non (upd H a (.dK (mergeK kvs more)))
theorem mt_upd : MtR X "dict.update" rUpd := by
  intro pins s σ H x vs v us Q I rx rv h
  obtain ⟨a, b, kvs, more, ex, ev, hab, e1, e2, hl, q⟩ := h
  subst ex; subst ev
  obtain rfl : v = Value.ref a := rx
  obtain ⟨z1, hd1, ws1, rel1, dd1⟩ := dk_of I.hok e1
  obtain ⟨z2, hd2, ws2, rel2, dd2⟩ := dk_of I.hok e2
  cases rv with
  | cons r0 rt =>
    cases rt
    obtain rfl : _ = Value.ref b := r0
    refine call_meetsIn PySem.F.slot_dict_update dd1.typeIs PySem.F.entry_dict_update (PySem.F.args_dict_update_2 _ _) (meets_dict_update (mixKind X.prog X.w) a b hab hd2)
      ⟨ws1, ws2, dd1, dd2, by rw [← rel1.length, ← rel2.length]; exact hl, fun h' dd' _ hs => ⟨.non, _, ?_, rfl, q⟩⟩
    have he : ∃ q, h'.get? a = some q := let ⟨q, _, _, hq, _⟩ := dd'; ⟨q, hq⟩
    have hz : (mergeK kvs more).length ≤ sizeLine := Nat.le_trans (length_mergeK more kvs) hl
    exact d_write (t' := s.toks) I (by rw [e1]; exact True.intro) hs he (dk_new hz hd1 (rel2.merge rel1) dd')
def mUpd (ml mo : M Nat) : M Fl := mBind ml fun l => mBind (isDk l) fun l => mBind mo fun k δ => match δ.s[l]?, δ.s[k]? with
  | some (.dk kvs), some (.dk more) => if l ≠ k ∧ kvs.length + more.length ≤ sizeLine then .ok .nx ⟨δ.e, δ.s.set l (.dk (mergeC kvs more))⟩ else .bad
  | _, _ => .bad
theorem js_upd {apos cpos : Pos} {v : Expr} {mo : M Nat} (ho : PE X o (tOfL X.K E ml)) (he : PE X v (tOfL X.K E mo))
    {PE0 : PE X (.Call (.Attribute o "update" apos) [v] [] cpos) (tBM X.K "dict" rUpd (tOfL X.K E ml) (tCons (tOfL X.K E mo) tNil))}
    (hs : swapsWith (.Call (.Attribute o "update" apos) [v] [] cpos) none pos.line X.env = pure false := by rfl) : PS X (.Expr (.Call (.Attribute o "update" apos) [v] [] cpos) pos) (tOfS X.K E (mUpd ml mo)) :=
  pst_imp (ps_expr PE0 hs) fun B σ H ⟨G, g, δ, re, po⟩ => by
    show tBM _ _ _ _ _ _ _ _
    unfold tBM
    refine tOfL.stepS re po fun q l g1 H1 δ1 e1 re1 r1 po1 => ?_
    obtain ⟨xs0, hx0, po1⟩ := isDk_poF po1
    obtain ⟨vs0, k1, k2⟩ := re1.dkAt r1 hx0
    refine ⟨.inr (.inr (.inl ⟨rfl, .inl ⟨vs0, k1⟩⟩)), ?_⟩
    refine tOfL.stepS re1 po1 fun p k g2 H2 δ2 e2 re2 r2 po2 => ?_
    split at po2
    · rename_i kvs more hx hy
      split at po2
      · rename_i hl
        have ha := e2.r _ _ r1
        obtain ⟨vs, h1, h2⟩ := re2.dkAt ha hx
        obtain ⟨ws, h3, h4⟩ := re2.dkAt r2 hy
        refine ⟨q, p, vs, ws, rfl, rfl, fun z => hl.1 (nodup_at re2.nd ha (z ▸ r2)), h1, h3, by rw [h2.length, h4.length]; exact hl.2, ?_⟩
        exact PostS.of po2 (re2.write hx rfl ha (.dk (KR.merge h4 h2)))
      · exact po2.elim
    · exact po2.elim
end
end Ds
namespace Ds
open PySem PySem.Spec PyProof.Rows L2 PySem.Froz
section
variable {P : Program} {w : World} {A : Around} {E : Value → Shared → Prop} {s : Shared} {a : Addr} {l : List Str}
def TxSet (P : Program) (w : World) (h : Heap) (a : Addr) (l : List Str) : Prop :=
  ∃ D : SD, h.get? a = some (sObj "set" D) ∧ TxOk P w D l ∧ Ris D.2.2.place.toList ∧ (w.params.followText "set-order" = true ∨ D.2.2.led = true) ∧ l.Nodup ∧ l.length < scanBound
theorem TxSet.at_ {h h' : Heap} (R : TxSet P w h a l) (k : ∀ o, h.get? a = some o → h'.get? a = some o) : TxSet P w h' a l := by
  obtain ⟨D, ho, r⟩ := R
  exact ⟨D, k _ ho, r⟩
def setNo (w : World) : Obj := { cls := .type "set", dict := none, data := .set #[] 0 (.fresh 0 0 (!w.params.followText "set-order")) }
theorem TxSet.none {h : Heap} (ho : h.get? a = some (setNo w)) : TxSet P w h a [] :=
  ⟨(#[], 0, .fresh 0 0 (!w.params.followText "set-order")), ho, TxOk.nil rfl, List.Pairwise.nil, by
    show _ ∨ (!w.params.followText "set-order") = true
    cases w.params.followText "set-order"
    · exact .inr rfl
    · exact .inl rfl, List.nodup_nil, by decide⟩
theorem tail_ris {ep : Nat} {es1 : Array (Int × Value)} {t2 : SetTable} {b : Bool} (r : Ris t2.place.toList) : Ris (tailTx ep es1 t2 b).2.2.place.toList ∧ (tailTx ep es1 t2 b).2.2.led = t2.led := by
  unfold tailTx
  split
  · exact ⟨relayAll_ris _ _ _, relayAll_led _ _ _⟩
  · exact ⟨r, rfl⟩
theorem add_ris {D : SD} {h : Int} {v : Value} (r : Ris D.2.2.place.toList) : Ris (addTx h v D).2.2.place.toList ∧ (addTx h v D).2.2.led = D.2.2.led := by
  unfold addTx
  have r1 := layNew_ris D.2.2 D.1 h v r
  have l1 := layNew_led D.2.2 D.1 h v
  split
  · obtain ⟨a1, a2⟩ := tail_ris (ep := D.2.1) (es1 := (layNew D.2.2 D.1 h v).1) (b := (layNew D.2.2 D.1 h v).2.2.1) (t2 := { (layNew D.2.2 D.1 h v).2.1 with plain := false }) r1
    exact ⟨a1, a2.trans l1⟩
  · obtain ⟨a1, a2⟩ := tail_ris (ep := D.2.1) (es1 := (layNew D.2.2 D.1 h v).1) (b := (layNew D.2.2 D.1 h v).2.2.1) r1
    exact ⟨a1, a2.trans l1⟩
def addT (l : List Str) (k : Str) : List Str := if k ∈ l then l else k :: l
theorem TxSet.add {k : Str} {u : Tok} {Q : Bool → Shared → Prop} (R : TxSet P w s.heap a l) (hb : l.length + 1 < scanBound)
    (hQ : ∀ (h' : Heap) (b : Bool), Heap.SameBut a s.heap h' → TxSet P w h' a (addT l k) → Q b { s with heap := h' }) : wpAny (model P w) A (setAddHashed a (.str k u) (hashStr w k)) Q E s := by
  obtain ⟨D, ho, F, r, hl, nd, hlen⟩ := R
  by_cases hk : k ∈ l
  · obtain ⟨es, ep, t⟩ := D
    have hkey : (strKind P w).is k (.str k u) = true := is_str k u
    have hel : ElemsOf (strKind P w) es.toList := F.el
    have hsz : es.size = l.length := F.sz
    unfold setAddHashed setAddHashedIn
    refine wpAny_holding (wpAny_bind (wpAny_setState_of ho rfl F.fit ?_))
    dsimp only
    rw [byScan_of rfl (by omega) hel]
    simp only [↓reduceIte]
    unfold setAddByScan
    refine wpAny_bind ?_
    refine wpAny_bind (wpAny_rule ?_)
    refine wpAny_bind (wpAny_setScan_of hkey ho rfl F.fit hel ?_)
    cases hfi : List.findIdx? (fun e => (strKind P w).is k e.2) es.toList with
    | some j =>
      dsimp only
      refine wpAny_pure (wpAny_pure ?_)
      refine hQ s.heap false (Heap.SameBut.refl a s.heap) ?_
      unfold addT
      rw [if_pos hk]
      exact ⟨(es, ep, t), ho, F, r, hl, nd, hlen⟩
    | none =>
      obtain ⟨e, he, q⟩ := (F.mem k).mp hk
      have c := List.findIdx?_eq_none_iff.mp hfi e he
      rw [q] at c
      cases c
  · refine add_x ho F hk hb ?_
    have hlt : a < s.heap.objs.size := Heap.lt_size ho
    refine hQ _ true ?_ ?_
    · exact Heap.SameBut.update _ _ _
    · unfold addT
      rw [if_neg hk]
      obtain ⟨r1, r2⟩ := add_ris (h := hashStr w k) (v := .str k u) r
      exact ⟨_, get_upd _ ho rfl, add_ok u F, r1, hl.imp id fun z => r2.trans z, List.nodup_cons.mpr ⟨hk, nd⟩, hb⟩
def metT (xs : List Str) : List Str := xs.foldl addT []
theorem metT_take {xs : List Str} {i : Nat} {x : Str} (h : xs[i]? = some x) : metT (xs.take (i + 1)) = addT (metT (xs.take i)) x := by
  unfold metT
  rw [List.take_add_one, h, List.foldl_append]
  rfl
theorem addT_len (l : List Str) (x : Str) : (addT l x).length ≤ l.length + 1 := by
  unfold addT
  split
  · omega
  · simp
theorem metT_len (xs : List Str) : (metT xs).length ≤ xs.length := by
  have h : ∀ (xs l : List Str), (xs.foldl addT l).length ≤ l.length + xs.length := fun xs => by
    induction xs with
    | nil => intro l; simp
    | cons x r ih =>
      intro l
      have h1 := ih (addT l x)
      have h2 := addT_len l x
      rw [List.foldl_cons, List.length_cons]
      omega
  have := h xs []
  simpa [metT] using this
theorem texts_in {C : Addr} {fp wr : List Addr} {G : Array GenState → Array GenState → Prop} {n : Nat} {Pv : Nat → Value → Prop} {St : Nat → Shared → Prop} {R : Result → Shared → Prop} {I : Addr}
    (W : WalksS P w A.in1 I fp wr G n Pv St) (hC : C ∉ fp) (xs : List Str) (hn : n = xs.length) (hb : xs.length + 1 < scanBound) (hv : ∀ i v, Pv i v → ∃ k t, xs[i]? = some k ∧ v = .str k t) (m : Nat) :
    ∀ (i : Nat) (s : Shared), n - i = m → i ≤ n → St i s → TxSet P w s.heap C (metT (xs.take i)) →
      (∀ s', Moved (C :: wr) G s s' → TxSet P w s'.heap C (metT xs) → R (.ok (.ret .none)) s') → codeAny (model P w) A (.builtin "set.update.loop" ⟨[.ref C, .ref I], []⟩) R s := by
  have cw : C ∉ wr := fun h => hC (W.sub _ h)
  have ws : ∀ b ∈ wr, b ∈ C :: wr := fun b hb => List.mem_cons_of_mem _ hb
  induction m with
  | zero =>
    intro i s hm hi st hS hR
    obtain rfl : i = n := by omega
    refine codeAny_builtin F.entry_set_update_loop ?_
    rw [Around.under_plainId F.plain_set_update_loop _]
    show wpAny _ A.in1 (pyNext (.ref I) >>= _) _ _ s
    refine wpAny_bind (W.done s _ _ st fun s1 mv => ?_)
    rw [List.take_of_length_le (by omega)] at hS
    exact wpAny_pure (hR s1 (mv.mono ws) (hS.at_ fun o e => mv.heap C o cw e))
  | succ m ih =>
    intro i s hm hi st hS hR
    have lt : i < n := by omega
    refine codeAny_builtin F.entry_set_update_loop ?_
    rw [Around.under_plainId F.plain_set_update_loop _]
    show wpAny _ A.in1 (pyNext (.ref I) >>= _) _ _ s
    refine wpAny_bind (W.item i s _ _ lt st fun v s1 hp st1 mv => ?_)
    obtain ⟨z, t, hz, rfl⟩ := hv i v hp
    show wpAny _ A.in1 (holding [Value.str z t] (setAdd C (.str z t)) >>= _) _ _ s1
    refine wpAny_bind (wpAny_holding ?_)
    unfold setAdd
    refine wpAny_holding ?_
    refine wpAny_bind ((strKind P w).pyHash (k := z) (is_str z t) ?_)
    have hlen := metT_len (xs.take i)
    rw [List.length_take] at hlen
    refine TxSet.add (s := { s1 with toks := s1.toks + 1 }) (hS.at_ fun o e => mv.heap C o cw e) (by omega) fun h2 b2 sb hS2 => ?_
    rw [← metT_take hz] at hS2
    refine wpAny_pure ⟨plainId_quiet F.plain_set_update_loop _, ih (i + 1) _ (by omega) lt (W.frame _ s1 _ _ st1 (Nat.le_succ _) fun b hb o e => ?_) hS2 fun s3 mv3 hS3 => ?_⟩
    · rw [sb.2 b (fun q : b = C => hC (q ▸ hb))]; exact e
    · refine hR s3 (Moved.trans W.gtrans ((mv.mono ws).then_heap (Nat.le_succ _) fun b o hb e => ?_) mv3) hS3
      rw [sb.2 b (fun q : b = C => hb (by rw [q]; exact List.mem_cons_self))]; exact e
set_option maxHeartbeats 8000000 in
theorem set_of_list {p : Addr} {items : Array Value} (xs : List Str) {Q : Value → Shared → Prop} (hh : A.handled = none) (hp : s.heap.IsList p items) (hi : StrsAre items.toList xs) (hb : xs.length + 1 < scanBound)
    (h : ∀ (h2 : Heap) (tk : Nat), TxSet P w h2 s.heap.objs.size (metT xs) → (∀ b o, s.heap.get? b = some o → h2.get? b = some o) → Q (.ref s.heap.objs.size) { s with heap := h2, toks := tk }) : wpAny (model P w) A (call (.type "set") [.ref p]) Q E s := by
  have hsz : items.size = xs.length := by
    have q := hi.length
    rwa [Array.length_toList] at q
  obtain ⟨c0, t0, hmro⟩ := PySem.F.called_set.mro
  have hmade0 := PySem.F.called_set.made
  have hsub0 := PySem.F.called_set.sub
  refine wpAny_call (codeAny_of_tree ?_)
  show wpAny _ _ (callAny (.type "set") _) _ _ _
  refine wpAny_pure ⟨Code.quiet_builtin _ (by decide +kernel), codeAny_builtin PySem.F.entry_type_call ?_⟩
  rw [Around.under_plain (weight_type_call_type "set" [.ref p] []) rfl]
  have f1 := PySem.F.called_set.notType
  have f2 := PySem.F.called_set.canCreate
  have f3 := PySem.F.typeCall_set_1 (.ref p)
  repeat (any_goals (first | assumption | wp_step))
  refine codeAny_mono (code_set_led1 (.ref p) (E := E) (Q₁ := fun z s1 => z = .ref s.heap.objs.size ∧ s1 = { s with heap := s.heap.push (setNo w) }) ⟨rfl, rfl⟩) fun r s1 hr => ?_
  cases r with
  | error e => exact hr
  | ok fl =>
    cases fl with
    | ret z =>
      obtain ⟨rfl, rfl⟩ := hr
      have at0 : (s.heap.push (setNo w)).get? s.heap.objs.size = some (setNo w) := Heap.get?_push_size _ rfl
      have ty0 : Shared.TypeIs { s with heap := s.heap.push (setNo w) } (.ref s.heap.objs.size) "set" := ⟨_, at0, rfl⟩
      have g1 := PySem.F.called_set.init.lookup
      have g2 := PySem.F.called_set.init.bind (.ref s.heap.objs.size)
      repeat (any_goals (first | assumption | wp_step))
      refine codeAny_mono (codeAny_call_builtin (R := wants (fun r s2 => r = .none ∧ ∃ h2 tk, s2 = { s with heap := h2, toks := tk } ∧ TxSet P w h2 s.heap.objs.size (metT xs) ∧
          (∀ b o, s.heap.get? b = some o → h2.get? b = some o)) E) PySem.F.called_set.init.plain PySem.F.entry_set_init (check_set_init_1 ty0 ?_)) fun r2 s2 hr2 => ?_
      · obtain ⟨op, hop, hcl, nn, hdl⟩ := hp
        obtain ⟨ocls, odict, odata, oslots⟩ := op
        simp only at hcl hdl
        subst hcl; subst hdl
        have q1 := PySem.F.sub_list_set
        have q2 := PySem.F.sub_list_frozenset
        have q3 : (Value.type "list" == Value.type "dict") = false := by decide
        have hop2 : (s.heap.push (setNo w)).get? p = some { cls := .type "list", dict := odict, data := .seq items nn, slots := oslots } := Heap.get?_push_of_some _ hop
        have p1 : (s.heap.push (setNo w)).IsList p items := ⟨_, hop2, rfl, nn, rfl⟩
        unfold Builtin.«set.__init__» noKeywords Builtin.Frozenset.updateFrom
        generalize hPI : pyIter = PI
        wp_walk
        subst hPI
        refine wpAny_pyIter_list p1 ?_
        refine wpAny_bind (wpAny_runValue ?_)
        have plt : p < s.heap.objs.size := Heap.lt_size hop
        have hh3 : A.in1.in1.in1.handled = none := by simp [hh]
        have neI : p ≠ (s.heap.push (setNo w)).objs.size := by
          rw [Heap.size_push]; exact Nat.ne_of_lt (Nat.lt_succ_of_lt plt)
        have nf : s.heap.objs.size ∉ [(s.heap.push (setNo w)).objs.size, p] := by
          rw [Heap.size_push]
          simp only [List.mem_cons, List.not_mem_nil, or_false, not_or]
          exact ⟨Nat.ne_of_lt (Nat.lt_succ_self _), Nat.ne_of_gt plt⟩
        have hv : ∀ (i : Nat) (v : Value), items[i]? = some v → ∃ k t, xs[i]? = some k ∧ v = .str k t := fun i v hv => by
          have hi2 : i < xs.length := by rw [← hsz]; exact (Array.getElem?_eq_some_iff.mp hv).1
          obtain ⟨t, e⟩ := SS.strs_at hi i v (by rw [Array.getElem?_toList]; exact hv)
          refine ⟨xs[i], t, List.getElem?_eq_getElem hi2, ?_⟩
          rw [e, List.getD_eq_getElem?_getD, List.getElem?_eq_getElem hi2] <;> rfl
        refine texts_in ((Walks.list hh3 _ p neI items).toS) (C := s.heap.objs.size) nf xs hsz hb hv (items.size - 0) 0 _ (by omega) (Nat.zero_le _) ⟨⟨_, Heap.get?_push_size _ rfl, rfl, rfl⟩, (p1.push _)⟩ ?hS0 ?hR
        case hS0 =>
          exact TxSet.none (Heap.get?_push_of_some _ at0)
        case hR =>
          intro s3 mv hS3
          obtain ⟨h3, n3, d3, t3, o3⟩ := s3
          have e1 : n3 = s.gens := mv.gens
          have e2 : d3 = s.drawn := mv.drawn
          have e3 : o3 = s.os := mv.os
          subst e1; subst e2; subst e3
          show wpAny _ _ _ _ _ _
          refine wpAny_pure ?_
          show wpAny _ _ (ret Value.none) _ _ _
          refine wpAny_pure ⟨rfl, h3, t3, rfl, hS3, fun b o e => ?_⟩
          have lb : b < s.heap.objs.size := Heap.lt_size e
          have n1 : b ≠ s.heap.objs.size := Nat.ne_of_lt lb
          have n2 : b ≠ (s.heap.push (setNo w)).objs.size := by
            rw [Heap.size_push]; exact Nat.ne_of_lt (Nat.lt_succ_of_lt lb)
          exact mv.heap b o (by simp only [List.mem_cons, List.not_mem_nil, or_false, not_or]; exact ⟨n1, n2⟩) (Heap.get?_push_of_some _ (Heap.get?_push_of_some _ e))
      · cases r2 with
        | error e => exact hr2
        | ok fl2 =>
          cases fl2 with
          | ret r =>
            obtain ⟨rfl, h2, tk, rfl, hS2, k2⟩ := hr2
            repeat (any_goals (first | assumption | wp_step))
            exact h _ _ hS2 k2
          | _ => exact hr2.elim
    | _ => exact hr.elim
set_option maxHeartbeats 8000000 in
theorem set_of_tuple {p : Addr} {items : Array Value} (xs : List Str) {Q : Value → Shared → Prop} (hh : A.handled = none) (hp : s.heap.IsTuple p items) (hi : StrsAre items.toList xs) (hb : xs.length + 1 < scanBound)
    (h : ∀ (h2 : Heap) (tk : Nat), TxSet P w h2 s.heap.objs.size (metT xs) → (∀ b o, s.heap.get? b = some o → h2.get? b = some o) → Q (.ref s.heap.objs.size) { s with heap := h2, toks := tk }) : wpAny (model P w) A (call (.type "set") [.ref p]) Q E s := by
  have hsz : items.size = xs.length := by
    have q := hi.length
    rwa [Array.length_toList] at q
  obtain ⟨c0, t0, hmro⟩ := PySem.F.called_set.mro
  have hmade0 := PySem.F.called_set.made
  have hsub0 := PySem.F.called_set.sub
  refine wpAny_call (codeAny_of_tree ?_)
  show wpAny _ _ (callAny (.type "set") _) _ _ _
  refine wpAny_pure ⟨Code.quiet_builtin _ (by decide +kernel), codeAny_builtin PySem.F.entry_type_call ?_⟩
  rw [Around.under_plain (weight_type_call_type "set" [.ref p] []) rfl]
  have f1 := PySem.F.called_set.notType
  have f2 := PySem.F.called_set.canCreate
  have f3 := PySem.F.typeCall_set_1 (.ref p)
  repeat (any_goals (first | assumption | wp_step))
  refine codeAny_mono (code_set_led1 (.ref p) (E := E) (Q₁ := fun z s1 => z = .ref s.heap.objs.size ∧ s1 = { s with heap := s.heap.push (setNo w) }) ⟨rfl, rfl⟩) fun r s1 hr => ?_
  cases r with
  | error e => exact hr
  | ok fl =>
    cases fl with
    | ret z =>
      obtain ⟨rfl, rfl⟩ := hr
      have at0 : (s.heap.push (setNo w)).get? s.heap.objs.size = some (setNo w) := Heap.get?_push_size _ rfl
      have ty0 : Shared.TypeIs { s with heap := s.heap.push (setNo w) } (.ref s.heap.objs.size) "set" := ⟨_, at0, rfl⟩
      have g1 := PySem.F.called_set.init.lookup
      have g2 := PySem.F.called_set.init.bind (.ref s.heap.objs.size)
      repeat (any_goals (first | assumption | wp_step))
      refine codeAny_mono (codeAny_call_builtin (R := wants (fun r s2 => r = .none ∧ ∃ h2 tk, s2 = { s with heap := h2, toks := tk } ∧ TxSet P w h2 s.heap.objs.size (metT xs) ∧
          (∀ b o, s.heap.get? b = some o → h2.get? b = some o)) E) PySem.F.called_set.init.plain PySem.F.entry_set_init (check_set_init_1 ty0 ?_)) fun r2 s2 hr2 => ?_
      · obtain ⟨op, hop, hcl, nn, hdl⟩ := hp
        obtain ⟨ocls, odict, odata, oslots⟩ := op
        simp only at hcl hdl
        subst hcl; subst hdl
        have q1 := PySem.F.sub_tuple_set
        have q2 := PySem.F.sub_tuple_frozenset
        have q3 : (Value.type "tuple" == Value.type "dict") = false := by decide
        have hop2 : (s.heap.push (setNo w)).get? p = some { cls := .type "tuple", dict := odict, data := .seq items nn, slots := oslots } := Heap.get?_push_of_some _ hop
        have p1 : (s.heap.push (setNo w)).IsTuple p items := ⟨_, hop2, rfl, nn, rfl⟩
        unfold Builtin.«set.__init__» noKeywords Builtin.Frozenset.updateFrom
        generalize hPI : pyIter = PI
        wp_walk
        subst hPI
        refine wpAny_pyIter_tuple p1 ?_
        refine wpAny_bind (wpAny_runValue ?_)
        have plt : p < s.heap.objs.size := Heap.lt_size hop
        have hh3 : A.in1.in1.in1.handled = none := by simp [hh]
        have neI : p ≠ (s.heap.push (setNo w)).objs.size := by
          rw [Heap.size_push]; exact Nat.ne_of_lt (Nat.lt_succ_of_lt plt)
        have nf : s.heap.objs.size ∉ [(s.heap.push (setNo w)).objs.size, p] := by
          rw [Heap.size_push]
          simp only [List.mem_cons, List.not_mem_nil, or_false, not_or]
          exact ⟨Nat.ne_of_lt (Nat.lt_succ_self _), Nat.ne_of_gt plt⟩
        have hv : ∀ (i : Nat) (v : Value), items[i]? = some v → ∃ k t, xs[i]? = some k ∧ v = .str k t := fun i v hv => by
          have hi2 : i < xs.length := by rw [← hsz]; exact (Array.getElem?_eq_some_iff.mp hv).1
          obtain ⟨t, e⟩ := SS.strs_at hi i v (by rw [Array.getElem?_toList]; exact hv)
          refine ⟨xs[i], t, List.getElem?_eq_getElem hi2, ?_⟩
          rw [e, List.getD_eq_getElem?_getD, List.getElem?_eq_getElem hi2] <;> rfl
        refine texts_in ((Walks.tuple hh3 _ p neI items).toS) (C := s.heap.objs.size) nf xs hsz hb hv (items.size - 0) 0 _ (by omega) (Nat.zero_le _) ⟨⟨_, Heap.get?_push_size _ rfl, rfl, rfl⟩, (p1.push _)⟩ ?hS0 ?hR
        case hS0 =>
          exact TxSet.none (Heap.get?_push_of_some _ at0)
        case hR =>
          intro s3 mv hS3
          obtain ⟨h3, n3, d3, t3, o3⟩ := s3
          have e1 : n3 = s.gens := mv.gens
          have e2 : d3 = s.drawn := mv.drawn
          have e3 : o3 = s.os := mv.os
          subst e1; subst e2; subst e3
          show wpAny _ _ _ _ _ _
          refine wpAny_pure ?_
          show wpAny _ _ (ret Value.none) _ _ _
          refine wpAny_pure ⟨rfl, h3, t3, rfl, hS3, fun b o e => ?_⟩
          have lb : b < s.heap.objs.size := Heap.lt_size e
          have n1 : b ≠ s.heap.objs.size := Nat.ne_of_lt lb
          have n2 : b ≠ (s.heap.push (setNo w)).objs.size := by
            rw [Heap.size_push]; exact Nat.ne_of_lt (Nat.lt_succ_of_lt lb)
          exact mv.heap b o (by simp only [List.mem_cons, List.not_mem_nil, or_false, not_or]; exact ⟨n1, n2⟩) (Heap.get?_push_of_some _ (Heap.get?_push_of_some _ e))
      · cases r2 with
        | error e => exact hr2
        | ok fl2 =>
          cases fl2 with
          | ret r =>
            obtain ⟨rfl, h2, tk, rfl, hS2, k2⟩ := hr2
            repeat (any_goals (first | assumption | wp_step))
            exact h _ _ hS2 k2
          | _ => exact hr2.elim
    | _ => exact hr.elim
end
end Ds
namespace Ds
open PySem PySem.Spec PyProof.Rows L2 PySem.Froz
def leS (a b : Str) : Bool := !ltCps b.cps.toList a.cps.toList
def sortT (xs : List Str) : List Str := xs.mergeSort leS
theorem mem_addT {l : List Str} {x y : Str} : y ∈ addT l x ↔ y ∈ l ∨ y = x := by
  unfold addT
  split
  · rename_i h
    exact ⟨.inl, fun z => z.elim id fun e => e ▸ h⟩
  · rw [List.mem_cons]
    exact Or.comm
theorem mem_metT {xs : List Str} {y : Str} : y ∈ metT xs ↔ y ∈ xs := by
  have h : ∀ (xs l : List Str), y ∈ xs.foldl addT l ↔ y ∈ l ∨ y ∈ xs := fun xs => by
    induction xs with
    | nil => intro l; simp
    | cons x r ih =>
      intro l
      rw [List.foldl_cons, ih, mem_addT, List.mem_cons]
      exact or_assoc
  have := h xs []
  simpa [metT] using this
theorem metT_nodup (xs : List Str) : (metT xs).Nodup := by
  have h : ∀ (xs l : List Str), l.Nodup → (xs.foldl addT l).Nodup := fun xs => by
    induction xs with
    | nil => intro l h; exact h
    | cons x r ih =>
      intro l h
      refine ih _ ?_
      unfold addT
      split
      · exact h
      · rename_i hx
        exact List.nodup_cons.mpr ⟨hx, h⟩
  exact h xs [] List.nodup_nil
theorem metT_id {xs : List Str} (h : xs.Nodup) : (metT xs).length = xs.length := by
  have p : (metT xs).Perm xs := (List.perm_ext_iff_of_nodup (metT_nodup xs) h).mpr fun z => mem_metT
  exact p.length_eq
theorem metT_short {xs : List Str} (h : ¬ xs.Nodup) : (metT xs).length < xs.length := by
  rcases Nat.lt_or_eq_of_le (metT_len xs) with z | z
  · exact z
  · exfalso
    refine h ?_
    have key : ∀ (xs l : List Str), l.Nodup → (xs.foldl addT l).length = l.length + xs.length → xs.Nodup ∧ ∀ y ∈ xs, y ∉ l := fun xs => by
      induction xs with
      | nil => intro l _ _; exact ⟨List.nodup_nil, by simp⟩
      | cons x r ih =>
        intro l hl e
        rw [List.foldl_cons, List.length_cons] at e
        have hx : x ∉ l := fun hx => by
          have e2 : addT l x = l := if_pos hx
          rw [e2] at e
          have h2 : ∀ (xs l : List Str), (xs.foldl addT l).length ≤ l.length + xs.length := fun xs => by
            induction xs with
            | nil => intro l; simp
            | cons x r ih =>
              intro l
              have h1 := ih (addT l x)
              have h2 := addT_len l x
              rw [List.foldl_cons, List.length_cons]
              omega
          have := h2 r l
          omega
        have e2 : addT l x = x :: l := if_neg hx
        rw [e2] at e
        obtain ⟨a, b⟩ := ih (x :: l) (List.nodup_cons.mpr ⟨hx, hl⟩) (by rw [List.length_cons]; omega)
        refine ⟨List.nodup_cons.mpr ⟨fun hm => b x hm List.mem_cons_self, a⟩, fun y hy => ?_⟩
        rcases List.mem_cons.mp hy with e | hy
        · subst e; exact hx
        · exact fun hl => b y hy (List.mem_cons_of_mem _ hl)
    exact (key xs [] List.nodup_nil (by simpa [metT] using z)).1
def SetX (P : Program) (w : World) (a : Addr) (l : List Str) : HO := .ext fun h => TxSet P w h a l
theorem setX_new {P : Program} {w : World} {H : Hp} {h : Heap} {a : Addr} {l : List Str} (R : TxSet P w h a l) : ObjOk P w H h a (SetX P w a l) := by
  have ⟨D, ho, _⟩ := R
  exact ⟨R, ⟨_, ho⟩, fun h1 h2 p k => TxSet.at_ p k⟩
section
variable {X : Cx}
theorem setX_get {pins : List (Addr × Obj)} {σ : L2.St} {H : Hp} {s : Shared} {a : Addr} {l : List Str} (I : Inv X pins σ H s) (ha : H a = some (SetX X.prog X.w a l)) : TxSet X.prog X.w s.heap a l := (I.hok a _ ha).1
def rSetX (P : Program) (w : World) (K : PySem.W.Frag) : List V → Hp → VK → Prop := fun xs H Q => ∃ (p : Addr) (ts : List Str), xs = [.ref p] ∧ (SqL K H p (ts.map V.str) ∨ SqT K H p (ts.map V.str)) ∧ ts.length + 1 < scanBound ∧ ∀ q, H q = none → Q (.ref q) (upd H q (SetX P w q (metT ts)))
theorem cr_setX (hc : X.calm = true) : CallR X (.type "set") (rSetX X.prog X.w X.K) := by
  intro pins s σ H xs us Q I r h
  obtain ⟨p, ts, rfl, hs, hb, q⟩ := h
  rw [Vals.ref1 r]
  have fin : ∀ (h2 : Heap) (tk : Nat), TxSet X.prog X.w h2 s.heap.objs.size (metT ts) → (∀ b o, s.heap.get? b = some o → h2.get? b = some o) → EP X pins σ Q (.ref s.heap.objs.size) { s with heap := h2, toks := tk } := fun h2 tk R k =>
    ⟨.ref _, upd H s.heap.objs.size (SetX X.prog X.w s.heap.objs.size (metT ts)), I.laid (t' := tk) k (Nat.le_refl _) (setX_new R), rfl, q _ (I.hok.fresh (Nat.le_refl _))⟩
  rcases hs with hs | hs
  · obtain ⟨its, rv, hl, _⟩ := I.list hs
    exact set_of_list ts (I.ok.hd hc) hl.isList (by simpa using strsAre_of rv) hb fin
  · obtain ⟨its, rv, hl, _⟩ := I.tuple hs
    exact set_of_tuple ts (I.ok.hd hc) (show s.heap.IsTuple p its.toArray from hl) (by simpa using strsAre_of rv) hb fin
def rLenX (P : Program) (w : World) : List V → Hp → VK → Prop := fun xs H Q => ∃ (a : Addr) (l : List Str), xs = [.ref a] ∧ H a = some (SetX P w a l) ∧ Q (.int l.length) H
theorem cr_lenX : CallR X (.builtin "len") (rLenX X.prog X.w) := by
  intro pins s σ H xs us Q I r h
  obtain ⟨a, l, rfl, ha, q⟩ := h
  rw [Vals.ref1 r]
  obtain ⟨D, ho, F, _, _, _, hb⟩ := setX_get I ha
  have hz : D.1.size = l.length := F.sz
  have hs : scanBound = 4096 := rfl
  refine call_len_set ho ⟨rfl, rfl, rfl⟩ rfl F.fit (by omega) ?_
  rw [hz]
  exact ⟨.int l.length, H, (I.tok _).tok _, ⟨_, rfl⟩, q⟩
end
end Ds
namespace Ds
open PySem PySem.Spec PyProof.Rows L2 Dn
section
variable {X : Cx} {E : XQ} {o v e : Expr} {pos : Pos} {ml : M Nat} {mc : M Cl}
/-- y.extend(x) -/
def mExt (ml : M Nat) (mc : M Cl) : M Fl := mBind (mIsL ml) fun l => mBind mc fun c δ => match δ.s[l]?, (snap δ.s c).bind itemsD with
  | some (.lst xs), some ds => if xs.length + ds.length ≤ sizeLine then .ok .nx ⟨δ.e, δ.s.set l (.lst (xs ++ ds.map Cl.sh))⟩ else .bad
  | _, _ => .bad
/-- sorted(set(x)), x some texts -/
def mTexts (f : List Str → D) (mc : M Cl) : M D := mBind mc fun c δ => match ((snap δ.s c).bind itemsD).bind toSs with
  | some ts => if ts.length + 1 < scanBound then .ok (f (metT ts)) δ else .bad
  | none => .bad
theorem texts_at {K : Frag} {G : Hp} {g : Gh} {H : Hp} {σ : L2.St} {δ : Sx} (re : RE K G g H σ δ) {w : V} {c : Cl} {ts : List Str} (r : CR K g w c) (h : ((snap δ.s c).bind itemsD).bind toSs = some ts) : ∃ p, w = .ref p ∧ (SqL K H p (ts.map V.str) ∨ SqT K H p (ts.map V.str)) := by
  obtain ⟨ds, h1, h2⟩ := Option.bind_eq_some_iff.mp h
  obtain ⟨d, h3, h4⟩ := Option.bind_eq_some_iff.mp h1
  obtain ⟨p, ys, e, hq, t⟩ := snap_items re r h3 h4
  have e1 := toSs_eq h2
  subst e1
  have e2 := t.strs
  subst e2
  exact ⟨p, e, hq⟩
theorem je_lenSet {p p2 q : Pos} (hc : X.calm = true) (hg : Gl X "len") (hm : X.mg "len" = none) (hv : bootBuiltins "len" = some (.builtin "len")) (hg2 : Gl X "set") (hm2 : X.mg "set" = none) (hv2 : bootBuiltins "set" = some (.type "set")) (he : PE X e (tOfC X.K E mc))
    (h1 : starEach [e] X.env = (false, eval e X.env) :: starEach [] X.env := by rfl) (hpl : (backTo q (starEach [] X.env)).any (·.1) = false := by rfl)
    (h2 : starEach [.Call (.Name "set" p2) [e] [] q] X.env = (false, eval (.Call (.Name "set" p2) [e] [] q) X.env) :: starEach [] X.env := by rfl) (hpl2 : (backTo pos (starEach [] X.env)).any (·.1) = false := by rfl) :
    PE X (.Call (.Name "len" p) [.Call (.Name "set" p2) [e] [] q] [] pos) (tOf X.K E (mTexts (fun l => .int l.length) mc)) :=
  pe_imp (pe_callB cr_lenX hg hm hv (pa_cons (pe_callTy (cr_setX hc) hg2 hm2 hv2 (pa_cons he pa_nil h1) (by decide) (by decide) h1 hpl) pa_nil h2) (by decide) (by decide) h2 hpl2) fun σ H Q ⟨G, g, δ, re, po⟩ => tOfC.step re po fun w c g1 H1 δ1 e1 re1 r1 po1 => by
    split at po1
    · rename_i ts hts
      split at po1
      · rename_i hl
        obtain ⟨a, rfl, hq⟩ := texts_at re1 r1 hts
        refine ⟨a, ts, rfl, hq, hl, fun b hb => ⟨b, metT ts, rfl, upd_same, ?_⟩⟩
        exact Post.late po1 re1 (ex_new hb) _ (.int _)
      · exact po1.elim
    · exact po1.elim
end
end Ds
namespace Ds
open PySem PySem.Spec PyProof.Rows L2 Dn
section
variable {X : Cx} {E : XQ} {a b e o : Expr} {pos : Pos} {m : M D}
theorem jc_var {i : Nat} {x : Str} (hN : X.N[i]? = some x) (hv : Vis X.env.scope x) (hd : (x == ("__debug__" : Str)) = false := by decide) (hcd : (x == ("__classdict__" : Str)) = false := by decide) : PE X (.Name x pos) (tOfC X.K E (mCl i)) :=
  pe_imp (pe_var hN hv hd hcd) fun σ H Q ⟨G, g, δ, re, po⟩ => by
    unfold mCl at po
    split at po
    · rename_i d hd
      obtain ⟨v, h1, h2⟩ := re.sl i _ hd (by simp)
      exact ⟨v, h1, po g H (Le.refl _) re v h2⟩
    · rename_i d hd
      obtain ⟨v, h1, h2⟩ := re.sl i _ hd (by simp)
      exact ⟨v, h1, po g H (Le.refl _) re v h2⟩
    · exact po.elim
inductive KKeys : List DictEntry → List Str → Prop where
  | nil : KKeys [] []
  | cons {e : DictEntry} {r : List DictEntry} {x : Str} {t : Tok} {ks : List Str} : e.key = .str x t → KKeys r ks → KKeys (e :: r) (x :: ks)
def KDk (w : World) (K : Frag) (d : Addr) (ks : List Str) : Prop := ∃ es n, KDict K w d es n ∧ KKeys es.toList ks
theorem KKeys.find {es : List DictEntry} {ks : List Str} (h : KKeys es ks) (z : Str) : (es.find? (·.key.isStr z)).isSome = ks.contains z ∧ es.any (·.refKey) = false := by
  induction h with
  | nil => exact ⟨rfl, rfl⟩
  | @cons e r x t ks he _ ih =>
    have k1 : e.key.isStr z = (x == z) := by rw [he]; rfl
    have k2 : e.refKey = false := by unfold DictEntry.refKey; rw [he]
    refine ⟨?_, by rw [List.any_cons, ih.2, k2]; rfl⟩
    rw [List.find?_cons, k1, List.contains_cons]
    by_cases h : x = z
    · subst h; simp
    · have h1 : (x == z) = false := by simpa using h
      have h2 : (z == x) = false := by simpa using fun q => h q.symm
      rw [h1, h2, Bool.false_or]
      exact ih.1
theorem KDk.ns {w : World} {K : Frag} {d : Addr} {ks : List Str} (h : KDk w K d ks) : ∃ es n, KDict K w d es n ∧ ∀ z : Str, ∃ r, PySem.W.nsIn K d z = some r ∧ r.isSome = ks.contains z := by
  obtain ⟨es, n, D, k⟩ := h
  refine ⟨es, n, D, fun z => ?_⟩
  obtain ⟨h1, h2⟩ := k.find z
  unfold PySem.W.nsIn
  rw [D.at_]
  dsimp only
  cases q : es.toList.find? (·.key.isStr z) with
  | some e => rw [q] at h1; exact ⟨_, rfl, h1⟩
  | none => rw [q] at h1; rw [h2]; exact ⟨none, rfl, h1⟩
def mKIn (neg : Bool) (ks : List Str) (m : M D) : M D := mBind m fun e => mOpt ((toS e).map fun z => .bool (if neg then !ks.contains z else ks.contains z))
theorem kin_read {neg : Bool} {ks : List Str} {d : Addr} (hk : ∀ z : Str, ∃ r, PySem.W.nsIn X.K d z = some r ∧ r.isSome = ks.contains z) {σ : L2.St} {H : Hp} {Q : VK} (h : tOf X.K E (mKIn neg ks m) σ H Q) : tOp (fun x y H Q => ∃ (z : Str) (r : Option Value), x = .str z ∧ y = .ref d ∧ PySem.W.nsIn X.K d z = some r ∧ Q (.bl (if neg then !r.isSome else r.isSome)) H) (tOf X.K E m) (tC (.ref d)) σ H Q := by
  obtain ⟨G, g, δ, re, po⟩ := h
  refine tOf.step re po fun v e g1 H1 δ1 e1 re1 r1 po1 => ?_
  obtain ⟨c, hc, po2⟩ := Post.opt po1
  obtain ⟨z, hz, hc⟩ := Option.map_eq_some_iff.mp hc
  subst hc
  cases r1 <;> simp [toS] at hz
  subst hz
  obtain ⟨r, h1, h2⟩ := hk _
  refine ⟨_, r, rfl, rfl, h1, ?_⟩
  rw [h2]
  exact Post.of po2 re1 _ (.bl _)
theorem jt_kin {ks : List Str} {d : Addr} {x : Str} {p : Pos} (ha : PE X a (tOf X.K E m)) (hg : Gl X x) (hm : X.mg x = some (.ref d)) (hk : KDk X.w X.K d ks) (hd : (x == ("__debug__" : Str)) = false := by decide) (hb : behindInMarks .In (.Name x p) = false := by rfl) : PT X (.Compare a [.In] [.Name x p] pos) (tOfT X.K E (mTest (mKIn false ks m))) := by
  obtain ⟨es, n, D, h⟩ := hk.ns
  exact pt_imp (pt_cmpR (op_in_kd D) ha (pe_glob (v := .ref d) hg hm rfl hd) hb) fun _ _ _ q => testS (fun _ _ _ z => kin_read h z) q
end
end Ds
namespace Ds
open PySem PySem.Spec PyProof.Rows L2 Dn
/-- what an iterator of its own draws, bs: where its things lie -/
structure Src (P : Program) (w : World) (K : Frag) (J : It) (it : Addr) (bs : List Addr) (own : Nat → Heap → Prop) : Prop where
  obj : ∀ i h, own i h → ∃ o, h.get? it = some o ∧ ∀ v, o.data ≠ .cell v
  keep : ∀ i h h', own i h → (∀ o, h.get? it = some o → h'.get? it = some o) → own i h'
  go : ∀ (X : Cx), X.prog = P → X.w = w → X.K = K → X.calm = true → ∀ (i : Nat) (pins : List (Addr × Obj)) (s : Shared) (σ : L2.St) (H : Hp), Inv X pins σ H s → own i s.heap → J.go i H →
    ∃ (n : Nat) (Pv : Nat → Value → Prop) (T : Nat → Heap → Prop), Draws P w X.A.in1 it (it :: bs) n Pv T ∧ T i s.heap ∧ i < n ∧ (∀ j h', T j h' → own j h') ∧ ∀ u, Pv i u → ∃ x, RelV x u ∧ J.yld i H x H
  stop : ∀ (X : Cx), X.prog = P → X.w = w → X.K = K → X.calm = true → ∀ (i : Nat) (pins : List (Addr × Obj)) (s : Shared) (σ : L2.St) (H : Hp), Inv X pins σ H s → own i s.heap → J.stop i H →
    ∃ (Pv : Nat → Value → Prop) (T : Nat → Heap → Prop), Draws P w X.A.in1 it (it :: bs) i Pv T ∧ T i s.heap
/-- a value begins such an iterator -/
def Sour (X : Cx) (s : Shared) (u : Value) (J : It) : Prop := ∃ (o : Obj) (Hh : Heap → Prop) (bs : List Addr) (own : Addr → Nat → Heap → Prop), Begins u o Hh ∧ Hh s.heap ∧ (∀ b ∈ bs, b < s.heap.objs.size) ∧
  (∀ it h, h.get? it = some o → own it 0 h) ∧ ∀ it, it ∉ bs → Src X.prog X.w X.K J it bs (own it)
theorem draws_end {P : Program} {w : World} {A : Around} {it : Addr} {fp : List Addr} {T : Heap → Prop} (i : Nat) (lv : ∀ h, T h → ∃ o, h.get? it = some o) (fr : ∀ h h', T h → (∀ b ∈ fp, ∀ o, h.get? b = some o → h'.get? b = some o) → T h')
    (dn : ∀ (s : Shared) (Q : Value → Shared → Prop) (E : Value → Shared → Prop), T s.heap → (∀ h' e, Heap.ExtBut it s.heap h' → (∃ o, h'.get? e = some o ∧ o.cls = .type "StopIteration") → E (.ref e) { s with heap := h' }) → wpAny (model P w) A (Builtin.SmallTypes.nextOf (.ref it)) Q E s) :
    Draws P w A it fp i (fun _ _ => True) (fun j h => j = i ∧ T h) where
  live := fun j h ⟨_, t⟩ => lv h t
  frame := fun j h h' ⟨e, t⟩ k => ⟨e, fr h h' t k⟩
  item := fun j s Q E hlt ⟨e, _⟩ _ => absurd hlt (by omega)
  done := fun s Q E ⟨_, t⟩ hE => dn s Q E t hE
theorem src_tuple {P : Program} {w : World} {K : Frag} {a it : Addr} (hn : a ≠ it) : Src P w K (Itt K a) it [a] (fun i h => h.IsTupleIter it a i) where
  obj := fun i h ⟨o, e, _, d⟩ => ⟨o, e, fun v q => by rw [d] at q; cases q⟩
  keep := fun i h h' t k => t.at k
  go := by
    intro X hP hw hK hc i pins s σ H I t hg
    subst hP hw hK
    obtain ⟨xs, x, hq, hx⟩ := hg
    obtain ⟨its, rv, p, _⟩ := I.tuple hq
    obtain ⟨u, hu, ru⟩ := rv.get hx
    have pt : s.heap.IsTuple a its.toArray := p
    have hlt := (List.getElem?_eq_some_iff.mp hu).1
    have hh : X.A.in1.handled = none := I.ok.hd hc
    have dr := Draws.tuple (prog := X.prog) (w := X.w) hh it a hn its.toArray
    refine ⟨_, _, _, dr, ⟨t, pt⟩, by simpa using hlt, fun j h' z => z.1, fun v hv => ⟨x, ?_, rfl, fun ys hy => by rw [I.tuple_inj hy hq]; exact hx⟩⟩
    have : its[i]? = some v := by simpa using hv
    rw [hu] at this
    rw [← Option.some.inj this]
    exact ru
  stop := by
    intro X hP hw hK hc i pins s σ H I t hg
    subst hP hw hK
    obtain ⟨xs, hq, hx⟩ := hg
    obtain ⟨its, rv, p, _⟩ := I.tuple hq
    have hl := rv.length
    have pt : s.heap.IsTuple a its.toArray := p
    refine ⟨_, _, draws_end (T := fun h => h.IsTupleIter it a i ∧ h.IsTuple a its.toArray) i (fun h z => let ⟨o, q, _⟩ := z.1; ⟨o, q⟩) (fun h h' z k => ⟨z.1.at fun o q => k it (by simp) o q, z.2.at fun o q => k a (by simp) o q⟩) fun s Q E z hE => ?_, rfl, t, pt⟩
    exact wpAny_nextOf_tuple_end (A := X.A.in1) (I.ok.hd hc) z.1 z.2 (by simp; omega) hE
theorem src_list {P : Program} {w : World} {K : Frag} {a it : Addr} (hn : a ≠ it) : Src P w K (Itl K a) it [a] (fun i h => h.IsListIter it a i) where
  obj := fun i h ⟨o, e, _, d⟩ => ⟨o, e, fun v q => by rw [d] at q; cases q⟩
  keep := fun i h h' t k => t.at k
  go := by
    intro X hP hw hK hc i pins s σ H I t hg
    subst hP hw hK
    obtain ⟨xs, x, hq, hx⟩ := hg
    obtain ⟨its, rv, p, _⟩ := I.list hq
    obtain ⟨u, hu, ru⟩ := rv.get hx
    have hlt := (List.getElem?_eq_some_iff.mp hu).1
    have hh : X.A.in1.handled = none := I.ok.hd hc
    have dr := Draws.list (prog := X.prog) (w := X.w) hh it a hn its.toArray
    refine ⟨_, _, _, dr, ⟨t, p.isList⟩, by simpa using hlt, fun j h' z => z.1, fun v hv => ⟨x, ?_, rfl, fun ys hy => by rw [I.list_inj hy hq]; exact hx⟩⟩
    have : its[i]? = some v := by simpa using hv
    rw [hu] at this
    rw [← Option.some.inj this]
    exact ru
  stop := by
    intro X hP hw hK hc i pins s σ H I t hg
    subst hP hw hK
    obtain ⟨xs, hq, hx⟩ := hg
    obtain ⟨its, rv, p, _⟩ := I.list hq
    have hl := rv.length
    refine ⟨_, _, draws_end (T := fun h => h.IsListIter it a i ∧ h.IsList a its.toArray) i (fun h z => let ⟨o, q, _⟩ := z.1; ⟨o, q⟩) (fun h h' z k => ⟨z.1.at fun o q => k it (by simp) o q, z.2.at fun o q => k a (by simp) o q⟩) fun s Q E z hE => ?_, rfl, t, p.isList⟩
    exact wpAny_nextOf_list_end (A := X.A.in1) (I.ok.hd hc) z.1 z.2 (by simp; omega) hE
theorem text_end {P : Program} {w : World} {A : Around} (hh : A.handled = none) (it : Addr) (x : Str) (t : Tok) {i : Nat} (hi : x.cps.size ≤ i) (s : Shared) (Q : Value → Shared → Prop) (E : Value → Shared → Prop) (z : s.heap.IsStrIter it (strIterType x) x t i)
    (hE : ∀ h' e, Heap.ExtBut it s.heap h' → (∃ o, h'.get? e = some o ∧ o.cls = .type "StopIteration") → E (.ref e) { s with heap := h' }) : wpAny (model P w) A (Builtin.SmallTypes.nextOf (.ref it)) Q E s := by
  have hx : x.cps[i]? = none := by simp [hi]
  unfold strIterType at z
  split at z
  · exact wpAny_nextOf_ascii_end hh z hx hE
  · exact wpAny_nextOf_wide_end hh z hx hE
theorem src_text {P : Program} {w : World} {K : Frag} {it : Addr} (x : Str) (t : Tok) : Src P w K (Its x) it [] (fun i h => h.IsStrIter it (strIterType x) x t i) where
  obj := fun i h ⟨o, e, _, d⟩ => ⟨o, e, fun v q => by rw [d] at q; cases q⟩
  keep := fun i h h' ⟨o, e, r⟩ k => ⟨o, k o e, r⟩
  go := by
    intro X hP hw hK hc i pins s σ H I z hg
    subst hP hw hK
    have hg : i < x.cps.size := hg
    have hh : X.A.in1.handled = none := I.ok.hd hc
    have dr := Draws.text (prog := X.prog) (w := X.w) hh it x t
    exact ⟨_, _, _, dr, z, hg, fun j h' q => q, fun v ⟨c, u, h1, h2⟩ => ⟨.str ⟨#[c]⟩, ⟨u, h2⟩, rfl, c, h1, rfl⟩⟩
  stop := by
    intro X hP hw hK hc i pins s σ H I z hg
    subst hP hw hK
    refine ⟨_, _, draws_end (T := fun h => h.IsStrIter it (strIterType x) x t i) i (fun h ⟨o, q, _⟩ => ⟨o, q⟩) (fun h h' ⟨o, e, r⟩ k => ⟨o, k it (by simp) o e, r⟩) fun s Q E q hE => ?_, rfl, z⟩
    exact text_end (A := X.A.in1) (I.ok.hd hc) it x t hg s Q E q hE
section
variable {X : Cx} {pins : List (Addr × Obj)} {s : Shared} {σ : L2.St} {H : Hp}
theorem sour_tuple {a : Addr} {xs : List V} (I : Inv X pins σ H s) (h : SqT X.K H a xs) : Sour X s (.ref a) (Itt X.K a) := by
  obtain ⟨its, rv, p, _⟩ := I.tuple h
  have pt : s.heap.IsTuple a its.toArray := p
  obtain ⟨o, e, _⟩ := p
  exact ⟨_, _, [a], fun it i h => h.IsTupleIter it a i, begins_tuple a its.toArray, pt, fun b hb => by simp at hb; rw [hb]; exact Heap.lt_size e, fun it h q => ⟨_, q, rfl, rfl⟩, fun it hn => src_tuple fun z => hn (by simp [z])⟩
theorem sour_list {a : Addr} {xs : List V} (I : Inv X pins σ H s) (h : SqL X.K H a xs) : Sour X s (.ref a) (Itl X.K a) := by
  obtain ⟨its, rv, p, _⟩ := I.list h
  obtain ⟨o, n, e, _⟩ := id p
  exact ⟨_, _, [a], fun it i h => h.IsListIter it a i, begins_list a its.toArray, p.isList, fun b hb => by simp at hb; rw [hb]; exact Heap.lt_size e, fun it h q => ⟨_, q, rfl, rfl⟩, fun it hn => src_list fun z => hn (by simp [z])⟩
theorem sour_text {x : Str} {t : Tok} : Sour X s (.str x t) (Its x) :=
  ⟨_, _, [], fun it i h => h.IsStrIter it (strIterType x) x t i, begins_text x t, trivial, fun b hb => by simp at hb, fun it h q => ⟨_, q, rfl, rfl⟩, fun it _ => src_text x t⟩
end
/-- .. each with its number, in new pairs -/
def ItE (J : It) : It := ⟨J.go, fun i H v H' => ∃ T x, v = .ref T ∧ H T = none ∧ H' = upd H T (.tup [.int (i : Nat), x]) ∧ J.yld i H x H, J.stop⟩
theorem turn_enumS {P : Program} {w : World} {K : Frag} {elts : List Expr} {kk : Nat} {tpos : Pos} {J : It} {e it : Addr} {bs : List Addr} {own : Nat → Heap → Prop} (S : Src P w K J it bs own) (hb : e ∉ it :: bs) :
    Turn P w K (.Tuple elts kk tpos) (ItE J) [e, it] e (fun i h => (∃ old, IsEnum h e it ((i : Nat) : Int) old) ∧ own i h) where
  mem := by simp
  obj := fun i h ⟨⟨old, he⟩, ho⟩ b hm => by
    rcases List.mem_cons.mp hm with z | z
    · rw [z]; exact ⟨_, he, fun v q => nomatch q⟩
    · simp at z; rw [z]; exact S.obj i h ho
  keep := fun i h h' ⟨⟨old, he⟩, ho⟩ k => ⟨⟨old, k e (by simp) _ he⟩, S.keep i h h' ho fun o q => k it (by simp) o q⟩
  item := by
    intro X hP hw hK hc i pins s σ H E I hf ⟨⟨old, he⟩, ho⟩ hg
    have hne : e ≠ it := fun z => hb (by simp [z])
    obtain ⟨n, Pv, T, D, hT, hlt, back, yl⟩ := S.go X hP hw hK hc i pins s σ H I ho hg
    have hel : e < s.heap.objs.size := Heap.lt_size he
    have hil : it < s.heap.objs.size := by obtain ⟨_, q, _⟩ := S.obj _ _ ho; exact Heap.lt_size q
    refine wpAny_pyNext_enum_itemD D he hT hlt hne hb fun u h1 tk pu out hT1 new1 sz1 k1 => ⟨_, rfl, ?_⟩
    obtain ⟨x, rx, yx⟩ := yl u pu
    refine wpAny_letOwnedTupleGo_enum (s := { s with heap := h1, toks := tk + 1 }) out fun h2 he2 sb => ?_
    have new2 : h2.get? s.heap.objs.size = some { cls := .type "tuple", data := .seq #[.int i tk, u] } := (sb.2 _ (Nat.ne_of_gt hel)).trans new1
    have ok : ObjOk X.prog X.w (upd H s.heap.objs.size (.tup [.int (i : Nat), x])) h2 s.heap.objs.size (.tup [.int (i : Nat), x]) :=
      ⟨Nat.le_of_ble_eq_true rfl, [.int i tk, u], .cons ⟨_, rfl⟩ (.cons rx .nil), ⟨_, new2, rfl, _, rfl⟩⟩
    have I1 : Inv X pins σ (upd H s.heap.objs.size (.tup [.int (i : Nat), x])) { s with heap := h2, toks := tk + 1 } := by
      refine I.turnedNew (ch := [e, it]) (fun b ob hm q => ?_) hf (Nat.le_refl _) ok
      have b1 : b ≠ e := fun z => hm (by simp [z])
      have b2 : b ≠ it := fun z => hm (by simp [z])
      exact (sb.2 b b1).trans (k1 b ob b1 b2 q)
    refine ⟨.ref s.heap.objs.size, _, I1, rfl, ⟨_, x, rfl, I.hok.fresh (Nat.le_refl _), rfl, yx⟩, ⟨⟨u, ?_⟩, ?_⟩, fun b hm => ?_⟩
    · have e1 : ((i + 1 : Nat) : Int) = (i : Int) + 1 := by omega
      rw [e1]; exact he2
    · exact S.keep _ _ _ (back _ _ hT1) fun o q => (sb.2 it hne.symm).trans q
    · have hlb : b < s.heap.objs.size := by
        rcases List.mem_cons.mp hm with z | z
        · rw [z]; exact hel
        · simp at z; rw [z]; exact hil
      rw [upd_ne (Nat.ne_of_lt hlb)]
      exact (hf b hm).1
  done := by
    intro X hP hw hK hc i pins s σ H E I hf ⟨⟨old, he⟩, ho⟩ hg
    obtain ⟨Pv, T, D, hT⟩ := S.stop X hP hw hK hc i pins s σ H I ho hg
    refine wpAny_pyNext_enum_endD D he hT fun h1 eb => ⟨rfl, ?_⟩
    exact I.turnedL (t' := s.toks) (ch := [e, it]) (fun b o hm q => eb b o (fun z => hm (by simp [z])) q) hf
  self := fun A i s Q E ⟨⟨_, he⟩, _⟩ h => wpAny_pyIter_enum he h
end Ds
namespace Ds
open PySem PySem.Spec PyProof.Rows L2 Dn
theorem meets_enB {v : Value} {o : Obj} {Hh : Heap → Prop} (B : Begins v o Hh) :
    Meets (Builtin.«enumerate.__new__» ⟨[.type "enumerate", v], []⟩) (fun _ R sh => Hh sh.heap ∧
      R (.ok (.ret (.ref (sh.heap.push o).objs.size))) { sh with heap := (sh.heap.push o).push { cls := .type "enumerate", data := .fields #[.none, .bool false, .ref sh.heap.objs.size, rawInt 0, .none, .none] } }) :=
  .of_wp fun prog w A R sh h => by
    obtain ⟨hp, gs, dr, tk, sy⟩ := sh
    obtain ⟨b1, h⟩ := h
    have hs := sub_enumerate
    have beg : ∀ {A' : Around} {E : Value → Shared → Prop} {Q : Value → Shared → Prop}, Q (.ref hp.objs.size) ⟨hp.push o, gs, dr, tk, sy⟩ → wpAny (model prog w) A' (pyIter v) Q E ⟨hp, gs, dr, tk, sy⟩ :=
      fun q => B.iter prog w _ _ ⟨hp, gs, dr, tk, sy⟩ _ b1 q
    wp_walk using beg
    refine wpAny_stack_any fun stk => wpAny_pure ?_
    split
    · rename_i c _ _ _ _ _
      cases (c == Value.type "enumerate")
      · wp_walk using beg
        exact ⟨_, rfl, h⟩
      · wp_walk using beg
        exact ⟨_, rfl, h⟩
    · wp_walk using beg
      exact ⟨_, rfl, h⟩
theorem call_enB {prog : Program} {w : World} {A : Around} {E : Value → Shared → Prop} {sh : Shared} {v : Value} {o : Obj} {Hh : Heap → Prop} {Q : Value → Shared → Prop} (B : Begins v o Hh) (b1 : Hh sh.heap)
    (h : ∀ h1, IsEnum h1 (sh.heap.objs.size + 1) sh.heap.objs.size 0 .none → h1.get? sh.heap.objs.size = some o → (∀ b ob, sh.heap.get? b = some ob → h1.get? b = some ob) → Q (.ref (sh.heap.objs.size + 1)) { sh with heap := h1 }) :
    wpAny (model prog w) A (call (.type "enumerate") [v]) Q E sh := by
  refine callType_new F.called_enumerate (by decide) (F.typeCall_enumerate_1 _) (F.newCall_enumerate_1 _) (fun ob => F.args_object_init_2 ob _) F.entry_enumerate_new (meets_enB B) ⟨b1, ?_⟩
  have z1 : (sh.heap.push o).objs.size = sh.heap.objs.size + 1 := Heap.size_push ..
  show _ ∧ _
  rw [z1]
  have en : IsEnum ((sh.heap.push o).push { cls := .type "enumerate", data := .fields #[.none, .bool false, .ref sh.heap.objs.size, rawInt 0, .none, .none] }) (sh.heap.objs.size + 1) sh.heap.objs.size 0 .none := by
    have q := Heap.get?_push_size (sh.heap.push o) (o := { cls := .type "enumerate", data := .fields #[.none, .bool false, .ref sh.heap.objs.size, rawInt 0, .none, .none] }) rfl
    rw [z1] at q
    exact q
  exact ⟨⟨_, en, rfl⟩, h _ en (Heap.get?_push_of_some _ (Heap.get?_push_size _ B.free)) fun b ob q => Heap.get?_push_of_some _ (Heap.get?_push_of_some _ q)⟩
/-- a list, a tuple, a text, and how it is walked -/
def SrcV (K : Frag) (H : Hp) (x : V) (J : It) : Prop := (∃ a xs, x = .ref a ∧ SqT K H a xs ∧ J = Itt K a) ∨ (∃ a xs, x = .ref a ∧ SqL K H a xs ∧ J = Itl K a) ∨ ∃ z, x = .str z ∧ J = Its z
section
variable {X : Cx}
theorem SrcV.sour {pins : List (Addr × Obj)} {s : Shared} {σ : L2.St} {H : Hp} {x : V} {u : Value} {J : It} (h : SrcV X.K H x J) (I : Inv X pins σ H s) (r : RelV x u) : Sour X s u J := by
  rcases h with ⟨a, xs, rfl, q, rfl⟩ | ⟨a, xs, rfl, q, rfl⟩ | ⟨z, rfl, rfl⟩
  · obtain rfl : u = .ref a := r
    exact sour_tuple I q
  · obtain rfl : u = .ref a := r
    exact sour_list I q
  · obtain ⟨t, rfl⟩ := r
    exact sour_text
def iEnS (K : Frag) (ta : TA) : TI := fun σ H R => ta σ H fun vs H1 => ∃ x J, vs = [x] ∧ SrcV K H1 x J ∧ R (ItE J) H1
theorem pi_enS {e : Expr} {ta : TA} {p pos tpos : Pos} {elts : List Expr} {kk : Nat} (hg : Gl X "enumerate") (hm : X.mg "enumerate" = none) (ha : PA X [e] ta) (hs : starEach [e] X.env = [(false, eval e X.env)] := by rfl) :
    PI X (.Tuple elts kk tpos) (.Call (.Name "enumerate" p) [e] [] pos) (iEnS X.K ta) := by
  constructor
  intro pins s σ H R I h
  refine Call_ (ld_blt I hg hm boot_enumerate (PyProof.Rows.callWith_type1 (thn (ha.run pos pins s σ H _ I h) ?_) hs rfl))
  rintro us s1 ⟨vs, H1, I1, r1, x, J, ex, hv, q⟩
  subst ex
  cases r1 with
  | cons r rr =>
    cases rr
    obtain ⟨o, Hh, bs, own, B, b1, lo, o0, S⟩ := hv.sour I1 r
    refine call_enB B b1 fun h1 en ho k1 => wpAny_pyIter_enum en ?_
    have I2 : Inv X pins σ H1 { s1 with heap := h1 } := I1.kept (t' := s1.toks) k1
    have n1 : s1.heap.objs.size ∉ bs := fun hm => absurd (lo _ hm) (Nat.lt_irrefl _)
    have n2 : s1.heap.objs.size + 1 ∉ s1.heap.objs.size :: bs := fun hm => by
      rcases List.mem_cons.mp hm with z | z
      · exact Nat.succ_ne_self _ z
      · exact Nat.not_succ_lt_self (lo _ z)
    refine ⟨s1.heap.objs.size + 1, [s1.heap.objs.size + 1, s1.heap.objs.size], _, _, H1, rfl, I2, turn_enumS (S _ n1) n2, ⟨⟨.none, en⟩, o0 _ _ ho⟩, fun b hb => ?_, q⟩
    have le : s1.heap.objs.size ≤ b := by
      rcases List.mem_cons.mp hb with z | z
      · rw [z]; exact Nat.le_add_right _ _
      · simp at z; rw [z]; exact Nat.le_refl _
    exact I1.fpOk le (I1.hok.fresh le)
end
end Ds
namespace Ds
open PySem PySem.Spec PyProof.Rows L2 Dn
def enumD (ds : List D) : List D := ds.zipIdx.map fun p => .tuple [.int (p.2 : Nat), p.1]
def zipD (ds es : List D) : List D := List.zipWith (fun d e => .tuple [d, e]) ds es
theorem enumD_at {ds : List D} {i : Nat} : (enumD ds)[i]? = (ds[i]?).map fun d => .tuple [.int (i : Nat), d] := by
  unfold enumD
  rw [List.getElem?_map, List.getElem?_zipIdx]
  cases ds[i]? with
  | none => rfl
  | some d => simp
/-- walking changes nothing -/
def Still (J : It) : Prop := ∀ i H x H', J.yld i H x H' → H' = H
theorem still_tup {K : Frag} {a : Addr} : Still (Itt K a) := fun _ _ _ _ h => h.1
theorem still_lst {K : Frag} {a : Addr} : Still (Itl K a) := fun _ _ _ _ h => h.1
theorem still_str {z : Str} : Still (Its z) := fun _ _ _ _ h => h.1
theorem it_enum {K : Frag} {Hs : Hp} {J : It} {ds : List D} (h : Dn.ItOk K Hs J ds) : Dn.ItOk K Hs (ItE J) (enumD ds) := fun Hs1 H1 e1 e2 i => by
  obtain ⟨h1, h2⟩ := h Hs1 H1 e1 e2 i
  rw [enumD_at]
  refine ⟨fun d hd => ?_, fun hn => h2 (by simpa using hn)⟩
  obtain ⟨d0, q0, rfl⟩ := Option.map_eq_some_iff.mp hd
  obtain ⟨g1, g2⟩ := h1 d0 q0
  refine ⟨g1, fun x H2 ⟨T, y, ex, hT, eH, yl⟩ => ?_⟩
  subst ex; subst eH
  obtain ⟨Hs2, gr, rp⟩ := g2 y H1 yl
  have nw := Gr.new (o := .tup [.int (i : Nat), y]) gr.i hT
  exact ⟨_, gr.trans nw, .tup (StT.of upd_same) (.cons (.int _) (.cons (rp.ex nw.s) .nil))⟩
/-- a datum and how it is walked -/
theorem src_of {K : Frag} {Hs H : Hp} {v : V} {d : D} {ds : List D} (r : Rp K Hs v d) (h : dItems d = some ds) (e : Ex Hs H) : ∃ J, SrcV K H v J ∧ Dn.ItOk K Hs J ds ∧ Still J := by
  cases r with
  | lst q t =>
    obtain rfl := Option.some.inj h
    exact ⟨_, .inr (.inl ⟨_, _, rfl, sqL_ex e q, rfl⟩), it_list q t, still_lst⟩
  | tup q t =>
    obtain rfl := Option.some.inj h
    exact ⟨_, .inl ⟨_, _, rfl, sqT_ex e q, rfl⟩, it_tup q t, still_tup⟩
  | str z =>
    obtain rfl := Option.some.inj h
    exact ⟨_, .inr (.inr ⟨z, rfl, rfl⟩), it_str, still_str⟩
  | _ => simp [dItems] at h
section
variable {X : Cx} {E : XQ} {tg e : Expr} {pos : Pos} {m : M D}
def mEnum (m : M D) : M (List D) := mBind m fun d => mOpt ((dItems d).map enumD)
theorem ji_enum {p tpos : Pos} {elts : List Expr} {kk : Nat} (hg : Gl X "enumerate") (hm : X.mg "enumerate" = none) (h : PE X e (tOf X.K E m)) (hs : starEach [e] X.env = [(false, eval e X.env)] := by rfl) :
    PI X (.Tuple elts kk tpos) (.Call (.Name "enumerate" p) [e] [] pos) (tOfI X.K E (mEnum m)) :=
  pi_imp (pi_enS hg hm (pa_cons h pa_nil hs) hs) fun σ H R ⟨G, g, δ, re, po⟩ => tOf.step re po fun v d g1 H1 δ1 e1 re1 r1 po1 => by
    obtain ⟨ds, hd, po2⟩ := Post.opt po1
    obtain ⟨ds0, h0, rfl⟩ := Option.map_eq_some_iff.mp hd
    obtain ⟨J, hv, ok, _⟩ := src_of r1 h0 re1.ex
    exact ⟨v, J, rfl, hv, Post.of po2 re1 _ (.of (it_enum ok))⟩
def mZip (ma mb : M D) : M (List D) := mBind ma fun d => mBind mb fun e => mOpt ((dItems d).bind fun ds => (dItems e).map (zipD ds))
/-- lo, lo + c, .. -/
def stepD (lo c : Int) (n : Nat) : List D := (List.range n).map fun (k : Nat) => PyData.int (lo + (k : Nat) * c)
def okStep (i j c : Int) : Bool := decide (c ≠ 0) && (decide (c.natAbs < 1073741824) && (Builtin.Range.small i j c && decide (0 ≤ Builtin.Range.rangeSize i j c)))
def bRng3 : D → D → D → Option (List D)
  | .int i, .int j, .int c => if okStep i j c = true then some (stepD i c (Builtin.Range.rangeSize i j c).toNat) else none
  | _, _, _ => none
def mRng3 (ma mb mc : M D) : M (List D) := mBind ma fun d => mBind mb fun e => mBind mc fun c => mOpt (bRng3 d e c)
def mWhile (t : M Bool) (mb : M Fl) : Nat → M Fl
  | 0 => fun _ => .bad
  | k + 1 => fun δ => match t δ with
    | .ok true δ1 => (match mb δ1 with
      | .ok .nx δ2 => mWhile t mb k δ2
      | .ok .ct δ2 => mWhile t mb k δ2
      | .ok .bk δ2 => .ok .nx δ2
      | .ok (.rt c) δ2 => .ok (.rt c) δ2
      | .exc x δ2 => .exc x δ2
      | .bad => .bad)
    | .ok false δ1 => .ok .nx δ1
    | .exc x δ1 => .exc x δ1
    | .bad => .bad
theorem js_while {c : Expr} {body : List Stmt} {t : M Bool} {mb : M Fl} (k : Nat) (hp : PassesOwn (model X.prog X.w) X.A X.env X.xe) (hc : PT X c (tOfT X.K E t)) (hb : PSs X body (tOfS X.K E mb)) : PS X (.While c body [] pos) (tOfS X.K E (mWhile t mb k)) :=
  pst_imp (ps_while hp hc hb) fun B σ H ⟨G, g, δ, re, po⟩ => by
    refine ⟨fun n σ' H' => ∃ g' δ', Le g g' ∧ RE X.K G g' H' σ' δ' ∧ PostF X.K E G g' (mWhile t mb n δ') B, ⟨k, g, δ, Le.refl _, re, po⟩, ?_⟩
    rintro n σ1 H1 ⟨g1, δ1, e1, re1, po1⟩
    cases n with
    | zero => exact po1.elim
    | succ n =>
      unfold mWhile at po1
      refine ⟨G, g1, δ1, re1, ?_⟩
      cases q : t δ1 with
      | bad => rw [q] at po1; exact po1
      | exc x δ2 => rw [q] at po1; exact fun g2 H2 e2 re2 => po1 σ1 g2 H2 e2 re2
      | ok b δ2 =>
        rw [q] at po1
        intro g2 H2 e2 re2
        cases b with
        | false =>
          rw [if_neg (by decide)]
          exact po1 σ1 g2 H2 e2 re2
        | true =>
          rw [if_pos rfl]
          dsimp only at po1
          refine ⟨fun σ3 H3 => ∃ g3 δ3, Le g g3 ∧ RE X.K G g3 H3 σ3 δ3 ∧ PostF X.K E G g3 (mWhile t mb n δ3) B, fun σ3 H3 h => ⟨n, Nat.lt_succ_self n, h⟩, G, g2, δ2, re2, ?_⟩
          have ea := e1.trans e2
          cases z : mb δ2 with
          | ok fl δ3 =>
            rw [z] at po1
            cases fl with
            | nx => exact fun σ5 g5 H5 e5 re5 => ⟨g5, δ3, ea.trans e5, re5, PostS.ex po1 (e2.trans e5)⟩
            | ct => exact fun σ5 g5 H5 e5 re5 => ⟨g5, δ3, ea.trans e5, re5, PostS.ex po1 (e2.trans e5)⟩
            | bk => exact fun σ5 g5 H5 e5 re5 => po1 σ5 g5 H5 (e2.trans e5) re5
            | rt s => exact fun σ5 g5 H5 e5 re5 => po1 σ5 g5 H5 (e2.trans e5) re5
          | exc x δ3 =>
            rw [z] at po1
            exact fun σ5 g5 H5 e5 re5 => po1 σ5 g5 H5 (e2.trans e5) re5
          | bad => rw [z] at po1; exact po1
end
end Ds
namespace Ds
open PySem PySem.Spec PyProof.Rows L2 Dn
inductive KVs (K : Frag) : List DictEntry → List (Str × D) → Prop where
  | nil : KVs K [] []
  | cons {e : DictEntry} {r : List DictEntry} {x : Str} {t : Tok} {v : V} {d : D} {kvs : List (Str × D)} : e.key = .str x t → RelV v e.val → (∀ H, Rp K H v d) → KVs K r kvs → KVs K (e :: r) ((x, d) :: kvs)
def KDv (w : World) (K : Frag) (d : Addr) (kvs : List (Str × D)) : Prop := ∃ es n, KDict K w d es n ∧ KVs K es.toList kvs
theorem KVs.keys {K : Frag} {es : List DictEntry} {kvs : List (Str × D)} (h : KVs K es kvs) : KKeys es (kvs.map (·.1)) := by
  induction h with
  | nil => exact .nil
  | cons a _ _ _ ih => exact .cons a ih
theorem KDv.kd {w : World} {K : Frag} {d : Addr} {kvs : List (Str × D)} (h : KDv w K d kvs) : KDk w K d (kvs.map (·.1)) := by
  obtain ⟨es, n, D, k⟩ := h
  exact ⟨es, n, D, k.keys⟩
def lookS (kvs : List (Str × D)) (z : Str) : Option D := (kvs.find? fun kv => decide (kv.1 = z)).map (·.2)
theorem KVs.find {K : Frag} {es : List DictEntry} {kvs : List (Str × D)} (h : KVs K es kvs) {z : Str} {d : D} (q : lookS kvs z = some d) : ∃ e v, es.find? (·.key.isStr z) = some e ∧ RelV v e.val ∧ ∀ H, Rp K H v d := by
  induction h with
  | nil => cases q
  | @cons e r x t v d0 kvs he hv hr _ ih =>
    have k1 : e.key.isStr z = (x == z) := by rw [he]; rfl
    unfold lookS at q ih
    rw [List.find?_cons] at q ⊢
    by_cases hx : x = z
    · rw [decide_eq_true hx] at q
      obtain rfl : d0 = d := Option.some.inj q
      rw [k1, hx, beq_self_eq_true]
      exact ⟨e, v, rfl, hv, hr⟩
    · rw [decide_eq_false hx] at q
      have : (x == z) = false := by simpa using hx
      rw [k1, this]
      exact ih q
theorem KDv.at_ {w : World} {K : Frag} {a : Addr} {kvs : List (Str × D)} (h : KDv w K a kvs) {z : Str} {d : D} (q : lookS kvs z = some d) : ∃ v, KDct K w a z v ∧ ∀ H, Rp K H v d := by
  obtain ⟨es, n, D, k⟩ := h
  obtain ⟨e, v, h1, h2, h3⟩ := k.find q
  refine ⟨v, ⟨es, n, e.val, D.at_, D.lit, ?_, h2⟩, h3⟩
  unfold PySem.W.nsIn
  rw [D.at_]
  dsimp only
  rw [h1]
section
variable {X : Cx} {E : XQ} {e o : Expr} {pos : Pos} {m : M D} {ml : M Nat}
def mKGet (kvs : List (Str × D)) (m : M D) : M D := mBind m fun e => mOpt ((toS e).bind (lookS kvs))
theorem je_kget {kvs : List (Str × D)} {d : Addr} {x : Str} {p : Pos} (ha : PE X e (tOf X.K E m)) (hg : Gl X x) (hm : X.mg x = some (.ref d)) (hk : KDv X.w X.K d kvs) (hs : PlainIx e) (hd : (x == ("__debug__" : Str)) = false := by decide) : PE X (.Subscript (.Name x p) e pos) (tOf X.K E (mKGet kvs m)) :=
  pe_imp (pe_ix ix_kdict (pe_glob (v := .ref d) hg hm rfl hd) ha hs) fun σ H Q ⟨G, g, δ, re, po⟩ => by
    show tOf X.K E m σ H fun y H1 => rIxD X.K X.w (.ref d) y H1 Q
    refine tOf.step re po fun v c g1 H1 δ1 e1 re1 r1 po1 => ?_
    obtain ⟨r, hr, po2⟩ := Post.opt po1
    obtain ⟨z, hz, hl⟩ := Option.bind_eq_some_iff.mp hr
    cases r1 <;> simp [toS] at hz
    subst hz
    obtain ⟨u, k1, k2⟩ := hk.at_ hl
    exact ⟨d, _, u, rfl, rfl, k1, Post.of po2 re1 u (k2 _)⟩
def keysS : List (Key × Cl) → Option (List Str)
  | [] => some []
  | (.inr x, _) :: r => (keysS r).map (x :: ·)
  | _ => none
def mSortD (ml : M Nat) : M D := mBind ml fun l δ => match δ.s[l]? with
  | some (.dk kvs) => (match keysS kvs with
    | some ks => if ks.length < 64 then .ok (.list ((sortT ks).map PyData.str)) δ else .bad
    | none => .bad)
  | _ => .bad
end
end Ds
namespace Ds
open PySem PySem.Spec PyProof.Rows L2 Dn
def isTI : List Key → Bool
  | .inr _ :: .inl _ :: _ => true
  | _ => false
def toKs : List D → Option (List Key)
  | [] => some []
  | d :: ds => match toK d, toKs ds with
    | some k, some ks => some (k :: ks)
    | _, _ => none
def toTK : D → Option (List Key)
  | .tuple ds => match toKs ds with
    | some ks => if isTI ks then some ks else none
    | none => none
  | _ => none
def keyD : Key → D
  | .inl i => .int i
  | .inr x => .str x
/-- a dict with tuple keys, locked or not -/
def dtOf : Ob → Option (List (List Key × Cl))
  | .dt kvs => some kvs
  | .ft kvs => some kvs
  | _ => none
def tkAt (s : List Ob) (l : Nat) : Option (List (List Key × Cl)) := (s[l]?).bind dtOf
section
variable {X : Cx} {E : XQ} {a b e o f : Expr} {pos : Pos} {m mk mx : M D} {mc : M Cl} {ml : M Nat} {m1 m2 : M Fl}
/-- d[k] -/
def mTGet (ml : M Nat) (mk : M D) : M Cl := mBind ml fun l => mBind mk fun e δ => match tkAt δ.s l, toTK e with
  | some kvs, some k => match valC kvs k with
    | some c => .ok c δ
    | none => .bad
  | _, _ => .bad
def isDt (l : Nat) : M Nat := fun δ => match tkAt δ.s l with
  | some _ => .ok l δ
  | _ => .bad
/-- d.get(k, x) -/
def mTGet2 (ml : M Nat) (mk : M D) (mc : M Cl) : M Cl := mBind ml fun l => mBind (isDt l) fun l => mBind mk fun e => mBind mc fun z δ => match tkAt δ.s l, toTK e with
  | some kvs, some k => .ok ((valC kvs k).getD z) δ
  | _, _ => .bad
/-- d[k] = x -/
def mTPut (ml : M Nat) (mk : M D) (mc : M Cl) : M Fl := mBind mc fun c => mBind ml fun l => mBind mk fun e δ => match δ.s[l]?, toTK e with
  | some (.dt kvs), some k => if kvs.length < sizeLine then .ok .nx ⟨δ.e, δ.s.set l (.dt (putC kvs k c))⟩ else .bad
  | _, _ => .bad
/-- k in d, k not in d -/
def mTIn (neg : Bool) (mk : M D) (ml : M Nat) : M D := mBind mk fun e => mBind ml fun l δ => match tkAt δ.s l, toTK e with
  | some kvs, some k => .ok (.bool (if neg then !(valC kvs k).isSome else (valC kvs k).isSome)) δ
  | _, _ => .bad
/-- {} -/
def mTNew : M Nat := mAll (.dt [])
end
end Ds
namespace Ds
open PySem PySem.Spec PyProof.Rows L2 Dn
theorem clsA_of {K : Frag} {c : Str} {C : Addr} (h : PySem.W.nsIn K mainGlobals c = some (some (.ref C))) : clsA K c = some C := by
  unfold clsA
  rw [h]
def putFC (f : Str) (c : Cl) : List (Str × Cl) → List (Str × Cl)
  | [] => [(f, c)]
  | (g, x) :: r => if g = f then (g, c) :: r else (g, x) :: putFC f c r
section
variable {K : Frag} {g : Gh}
theorem KR.look {vs : List (Str × V)} {cs : List (Str × Cl)} (r : KR K g vs cs) (f : Str) : (cs.lookup f = none ∧ vs.lookup f = none) ∨ ∃ v c, cs.lookup f = Option.some c ∧ vs.lookup f = Option.some v ∧ CR K g v c := by
  induction r with
  | nil => exact .inl ⟨rfl, rfl⟩
  | @cons p q ps qs h t ih =>
    obtain ⟨p1, p2⟩ := p
    obtain ⟨q1, q2⟩ := q
    obtain ⟨h1, h2⟩ := h
    dsimp only at h1 h2
    subst h1
    by_cases e : f = p1
    · subst e
      refine .inr ⟨p2, q2, ?_, ?_, h2⟩
      · simp [List.lookup]
      · simp [List.lookup]
    · have b : (f == p1) = false := by simpa using e
      have e1 : List.lookup f ((p1, q2) :: qs) = List.lookup f qs := by simp only [List.lookup, b]
      have e2 : List.lookup f ((p1, p2) :: ps) = List.lookup f ps := by simp only [List.lookup, b]
      rw [e1, e2]
      exact ih
theorem KR.putF {vs : List (Str × V)} {cs : List (Str × Cl)} (r : KR K g vs cs) (f : Str) {v : V} {c : Cl} (h : CR K g v c) : KR K g (L2.putF f v vs) (putFC f c cs) := by
  induction r with
  | nil => exact .cons ⟨rfl, h⟩ .nil
  | @cons p q ps qs h' t ih =>
    obtain ⟨p1, p2⟩ := p
    obtain ⟨q1, q2⟩ := q
    obtain ⟨h1, h2⟩ := h'
    dsimp only at h1 h2
    subst h1
    unfold L2.putF putFC
    by_cases e : p1 = f
    · rw [if_pos e, if_pos e]; exact .cons ⟨rfl, h⟩ t
    · rw [if_neg e, if_neg e]; exact .cons ⟨rfl, h2⟩ ih
theorem RE.insAt {G : Hp} {H : Hp} {σ : L2.St} {δ : Sx} (r : RE K G g H σ δ) {l : Nat} {a C : Addr} {c : Str} {fs : List (Str × Cl)} (hC : clsA K c = some C) (h : g.r[l]? = some a) (hx : δ.s[l]? = some (.ins c fs)) : ∃ dx vs, H a = some (.ins C dx vs) ∧ KR K g vs fs := by
  obtain ⟨b, u, h1, h2, h3, h4⟩ := r.ob l _ hx rfl
  rw [h] at h1
  cases h1
  cases h3 with
  | ins hc h3 =>
    rw [hC] at hc
    cases hc
    exact ⟨_, _, h2, h3⟩
end
section
variable {X : Cx} {E : XQ} {a b e o : Expr} {pos : Pos} {mc : M Cl} {ml : M Nat} {c f : Str} {C : Addr}
/-- o.f -/
def mFld (c : Str) (ml : M Nat) (f : Str) : M Cl := mBind ml fun l δ => match δ.s[l]? with
  | some (.ins c' fs) => if c' = c then (match fs.lookup f with
    | some x => .ok x δ
    | none => .bad) else .bad
  | _ => .bad
theorem jc_fld (hC : clsA X.K c = some C) (k : Cls X.K C) (n : NoAttr X.K C f) (ho : PE X o (tOfL X.K E ml)) (hb : attributeBase o f X.env (eval o X.env) = eval o X.env := by rfl) : PE X (.Attribute o f pos) (tOfC X.K E (mFld c ml f)) :=
  pe_imp (pe_fld ho hb) fun σ H Q ⟨G, g, δ, re, po⟩ => tOfL.step re po fun q l g1 H1 δ1 e1 re1 r1 po1 => by
    split at po1
    · rename_i c' fs hx
      split at po1
      · rename_i hc
        subst hc
        split at po1
        · rename_i x hf
          obtain ⟨dx, vs, h1, h2⟩ := re1.insAt hC r1 hx
          rcases h2.look f with ⟨z, _⟩ | ⟨v, y, k1, k2, k3⟩
          · rw [z] at hf; cases hf
          · rw [k1] at hf
            cases hf
            exact ⟨q, C, dx, vs, v, rfl, h1, k, n, k2, Post.of po1 re1 v k3⟩
        · exact po1.elim
      · exact po1.elim
    · exact po1.elim
/-- o.f = e -/
def mSetF (c : Str) (ml : M Nat) (f : Str) (mc : M Cl) : M Fl := mBind mc fun x => mBind ml fun l δ => match δ.s[l]? with
  | some (.ins c' fs) => if c' = c ∧ fs.length < 1000 then .ok .nx ⟨δ.e, δ.s.set l (.ins c (putFC f x fs))⟩ else .bad
  | _ => .bad
theorem js_setF {pos' : Pos} {v : Expr} (hC : clsA X.K c = some C) (k : Cls X.K C) (n : NoAttr X.K C f) (ho : PE X o (tOfL X.K E ml)) (hv : PE X v (tOfC X.K E mc)) (hs : swapsWith v (some (.Attribute o f pos')) pos.line X.env = pure false := by rfl) : PS X (.Assign [.Attribute o f pos'] v pos) (tOfS X.K E (mSetF c ml f mc)) :=
  pst_imp (ps_fld ho hv hs) fun B σ H ⟨G, g, δ, re, po⟩ => tOfC.stepS re po fun w x g1 H1 δ1 e1 re1 r1 po1 => tOfL.stepS re1 po1 fun q l g2 H2 δ2 e2 re2 r2 po2 => by
    split at po2
    · rename_i c' fs hx
      split at po2
      · rename_i hc
        obtain ⟨hc, hl⟩ := hc
        subst hc
        obtain ⟨dx, vs, h1, h2⟩ := re2.insAt hC r2 hx
        exact ⟨q, C, dx, vs, rfl, h1, k, n, by rw [h2.length]; exact hl, PostS.of po2 (re2.write hx rfl r2 (.ins hC (h2.putF f (r1.le e2))))⟩
      · exact po2.elim
    · exact po2.elim
theorem evA_len : ∀ (as : List (M Cl)) (δ : Sx) (cs : List Cl) (δ' : Sx), evA as δ = .ok cs δ' → cs.length = as.length := fun as => by
  induction as with
  | nil => intro δ cs δ' h; cases h; rfl
  | cons m as ih =>
    intro δ cs δ' h
    unfold evA mBind at h
    cases q : m δ with
    | ok c δ1 =>
      rw [q] at h
      dsimp only at h
      cases q2 : evA as δ1 with
      | ok cs2 δ2 =>
        rw [q2] at h
        have h : Res.ok (c :: cs2) δ2 = Res.ok cs δ' := h
        injection h with h1 h2
        subst h1
        rw [List.length_cons, List.length_cons, ih _ _ _ q2]
      | exc y δ2 => rw [q2] at h; cases h
      | bad => rw [q2] at h; cases h
    | exc y δ1 => rw [q] at h; cases h
    | bad => rw [q] at h; cases h
/-- o.m(..) -/
def isIns (c m : Str) (l : Nat) : M Nat := fun δ => match δ.s[l]? with
  | some (.ins c' fs) => if c' = c ∧ fs.lookup m = none then .ok l δ else .bad
  | _ => .bad
theorem isIns_ok (c m : Str) (l : Nat) (δ : Sx) : isIns c m l δ = .bad ∨ ∃ fs, δ.s[l]? = some (.ins c fs) ∧ fs.lookup m = none ∧ isIns c m l δ = .ok l δ := by
  unfold isIns
  split
  · rename_i c' fs h
    split
    · rename_i hc
      obtain ⟨rfl, h2⟩ := hc
      exact .inr ⟨fs, h, h2, rfl⟩
    · exact .inl rfl
  · exact .inl rfl
def mMeth (c m : Str) (F : Fn) (ml : M Nat) (as : List (M Cl)) : M Cl := mBind ml fun l => mBind (isIns c m l) fun l => mBind (evA as) fun cs δ => match F (.lo l :: cs) δ.s with
  | .ok x s' => .ok x ⟨δ.e, s'⟩
  | .exc y s' => .bad
  | .bad => .bad
variable {F : Fn} {as : List (M Cl)} {k n : Nat} {fa : Addr} {fd : FuncData} {pr : List Str} {x m : Str} {es : List Expr} {p apos : Pos} {E0 : XK}
theorem meth_read (hC : clsA X.K c = some C) (hn : as.length + 1 = n) {σ : L2.St} {H : Hp} {Q : VK} (h : tOfC X.K E (mMeth c m F ml as) σ H Q) : tMeth C m (spF X.K n F) [] E0 (tOfL X.K E ml) (tOfA X.K E (evA as)) σ H Q := by
  obtain ⟨G, g, δ, re, po⟩ := h
  unfold tMeth
  refine tOfL.step re po fun q l g1 H1 δ1 e1 re1 r1 po1 => ?_
  unfold mBind at po1
  rcases isIns_ok c m l δ1 with h | ⟨fs, hx, hf, h⟩
  · rw [h] at po1; exact po1.elim
  rw [h] at po1
  dsimp only at po1
  obtain ⟨dx, vs, h1, h2⟩ := re1.insAt hC r1 hx
  have hlk : vs.lookup m = none := by
    rcases h2.look m with ⟨_, z⟩ | ⟨v, y, k1, _, _⟩
    · exact z
    · rw [hf] at k1; cases k1
  refine ⟨q, dx, vs, rfl, h1, hlk, ?_⟩
  have po' := po1
  cases qa : evA as δ1 with
  | ok cs0 δ0 =>
    have hl := evA_len _ _ _ _ qa
    rw [qa] at po'
    refine ⟨G, g1, δ1, re1, ?_⟩
    rw [qa]
    intro g2 H2 e2 re2 us r2
    have po2 := Post.ex po' e2
    rw [List.append_nil]
    dsimp only at po2
    refine ⟨by rw [List.length_cons, r2.length, hl, hn], G, g2, .lo l :: cs0, δ0.s, re2.bare, .cons (.lo (e2.r _ _ r1)) r2, ?_⟩
    cases q : F (.lo l :: cs0) δ0.s with
    | ok c s' =>
      rw [q] at po2
      exact fun g' H' e r v rv => po2 g' H' e (re2.lift e r) v rv
    | exc y s' => rw [q] at po2; exact po2.elim
    | bad => rw [q] at po2; exact po2.elim
  | exc y δ0 =>
    rw [qa] at po'
    refine ⟨G, g1, δ1, re1, ?_⟩
    rw [qa]
    exact po'
  | bad => rw [qa] at po'; exact po'.elim
theorem jc_meth {pl : Sem Bool} (hC : clsA X.K c = some C) (k0 : Cls X.K C) (hM : Meth X.K C m fa) (G : FnOk X.prog X.w X.K X.mg X.base CX0 k fa fd pr (spF X.K n F)) (hn : as.length + 1 = n) (hr : Room k X.A) (hb : Binds X.K fd pr []) (ho : PE X o (tOfL X.K E ml)) (ha : PA X (e :: es) (tOfA X.K E (evA as)))
    (hst : starEach (e :: es) X.env = (false, eval e X.env) :: starEach es X.env := by rfl) (hpl : (backTo pos (starEach es X.env)).any (·.1) = false := by rfl)
    (ht : eval (.Call (.Attribute o m apos) (e :: es) [] pos) X.env = (do
      let ov ← eval o X.env
      standAt apos.atName
      let (f, first) ← holding [ov] (getMethod ov m pl)
      callWith pos f first (backTo pos (starEach (e :: es) X.env)) (backToKw pos (keywordEach [] X.env))) := by rfl) : PE X (.Call (.Attribute o m apos) (e :: es) [] pos) (tOfC X.K E (mMeth c m F ml as)) :=
  pe_imp (pe_meth (pl := pl) ho k0 hM G hr hb .nil pass0 ha hst hpl ht) fun _ _ _ h => meth_read hC hn h
theorem jc_meth0 {pl : Sem Bool} (hC : clsA X.K c = some C) (k0 : Cls X.K C) (hM : Meth X.K C m fa) (G : FnOk X.prog X.w X.K X.mg X.base CX0 k fa fd pr (spF X.K 1 F)) (hr : Room k X.A) (hb : Binds X.K fd pr []) (ho : PE X o (tOfL X.K E ml))
    (ht : eval (.Call (.Attribute o m apos) [] [] pos) X.env = (do
      let ov ← eval o X.env
      standAt apos.atName
      let (f, first) ← holding [ov] (getMethod ov m pl)
      callWith pos f first (backTo pos (starEach [] X.env)) (backToKw pos (keywordEach [] X.env))) := by rfl) : PE X (.Call (.Attribute o m apos) [] [] pos) (tOfC X.K E (mMeth c m F ml [])) :=
  pe_imp (pe_meth0 (pl := pl) ho k0 hM G hr hb .nil pass0 ht) fun σ H Q h => by
    have z := meth_read (E0 := fun _ _ _ => False) hC (n := 1) rfl h
    unfold tMeth at z ⊢
    obtain ⟨G, g, δ, re, po⟩ := z
    refine ⟨G, g, δ, re, po.mono fun l g' H' δ' h a ha => ?_⟩
    obtain ⟨q, dx, fs, h1, h2, h3, h4⟩ := h a ha
    exact ⟨q, dx, fs, h1, h2, h3, nil_read h4⟩
/-- C(..) -/
def mMake (c : Str) (F : Fn) (as : List (M Cl)) : M Nat := mBind (evA as) fun cs δ => match F (.lo δ.s.length :: cs) (δ.s ++ [.ins c []]) with
  | .ok (.sh .none) s' => .ok δ.s.length ⟨δ.e, s'⟩
  | _ => .bad
theorem make_spec {G : Hp} {g1 : Gh} {H1 : Hp} {σ : L2.St} {δ1 : Sx} {cs : List Cl} {vs : List V} {Q : VK} (hC : clsA X.K c = some C) (hn : cs.length + 1 = n) (re1 : RE X.K G g1 H1 σ δ1) (r1 : All2 (CR X.K g1) vs cs) (po : Post X.K E G g1 σ (match F (.lo δ1.s.length :: cs) (δ1.s ++ [.ins c []]) with
  | .ok (.sh .none) s' => .ok δ1.s.length ⟨δ1.e, s'⟩
  | _ => (.bad : Res Nat)) fun l g' H' _ => ∀ a, g'.r[l]? = some a → Q (.ref a) H') : ∀ x dx, H1 x = none → H1 dx = none → dx ≠ x → spF X.K n F (.ref x :: (vs ++ [])) (upd (upd H1 dx (.own x)) x (.ins C dx [])) (fun v H2 => v = .non ∧ Q (.ref x) H2) E0 := by
  intro x dx hx hdx hne
  have ra := re1.newH (ex_new (o := .own x) hdx)
  have hx2 : upd H1 dx (.own x) x = none := by rw [upd_ne (Ne.symm hne)]; exact hx
  have rb := ra.newH (ex_new (o := .ins C dx []) hx2)
  have fr : Fro X.K G g1 (upd (upd H1 dx (.own x)) x (.ins C dx [])) x (.ins c []) := Fro.new ra hx2 (.ins hC .nil)
  obtain ⟨le, rc⟩ := rb.alloc fr
  have hlx : (g1.r ++ [x])[δ1.s.length]? = some x := by
    have hl : g1.r.length = δ1.s.length := re1.rl
    rw [← hl, List.getElem?_append_right (Nat.le_refl _), Nat.sub_self]
    rfl
  rw [List.append_nil]
  refine ⟨by rw [List.length_cons, r1.length, hn], G, ⟨g1.r ++ [x], g1.h⟩, .lo δ1.s.length :: cs, δ1.s ++ [.ins c []], rc.bare, .cons (.lo hlx) (CRs.le le r1), ?_⟩
  cases q : F (.lo δ1.s.length :: cs) (δ1.s ++ [.ins c []]) with
  | ok y s' =>
    rw [q] at po
    cases y with
    | sh d =>
      cases d with
      | none =>
        intro g' H' e r v rv
        refine ⟨?_, ?_⟩
        · cases rv with
          | sh h => cases h; rfl
        · exact po g' H' (le.trans e) (re1.lift (le.trans e) r) x (e.r _ _ hlx)
      | _ => exact po.elim
    | _ => exact po.elim
  | exc y s' => rw [q] at po; exact po.elim
  | bad => rw [q] at po; exact po.elim
theorem jl_make (hC : clsA X.K c = some C) (M0 : Mk X.K C fa) (G : FnOk X.prog X.w X.K X.mg X.base CX0 k fa fd pr (spF X.K n F)) (hn : as.length + 1 = n) (hr : Room (k + 1) X.A) (hg : Gl X x) (hm : X.mg x = some (.ref C)) (hb : Binds X.K fd pr []) (ha : PA X (e :: es) (tOfA X.K E (evA as)))
    (hdb : (x == ("__debug__" : Str)) = false := by decide) (he : starEach (e :: es) X.env = (false, eval e X.env) :: starEach es X.env := by rfl) (hpl : (backTo pos (starEach es X.env)).any (·.1) = false := by rfl) : PE X (.Call (.Name x p) (e :: es) [] pos) (tOfL X.K E (mMake c F as)) :=
  pe_imp (pe_make M0 G hr hg hm hb .nil pass0 ha hdb he hpl) fun σ H Q ⟨G, g, δ, re, po⟩ => by
    unfold tMake
    unfold mMake at po
    have po' := po
    unfold mBind at po'
    cases qa : evA as δ with
    | ok cs0 δ0 =>
      have hl := evA_len _ _ _ _ qa
      rw [qa] at po'
      refine ⟨G, g, δ, re, ?_⟩
      rw [qa]
      intro g1 H1 e1 re1 vs r1
      exact make_spec hC (by rw [hl, hn]) re1 r1 (Post.ex po' e1)
    | exc y δ0 =>
      rw [qa] at po'
      refine ⟨G, g, δ, re, ?_⟩
      rw [qa]
      exact po'
    | bad => rw [qa] at po'; exact po'.elim
end
end Ds
namespace Ds
open PySem PySem.Spec PyProof.Rows L2 Dn
section
variable {K : Frag} {G : Hp} {g : Gh} {H : Hp} {σ : L2.St} {δ : Sx}
theorem Rps.keys {h : Hp} : ∀ (ks : List Key), Rps K h (ks.map kV) (ks.map keyD)
  | [] => .nil
  | .inl i :: ks => .cons (.int i) (Rps.keys ks)
  | .inr x :: ks => .cons (.str x) (Rps.keys ks)
/-- the keys of a locked dict -/
def keysD (kvs : List (List Key × Cl)) : List D := kvs.map fun kv => .tuple (kv.1.map keyD)
end
section
variable {X : Cx} {E : XQ} {tg e : Expr} {pos : Pos} {ml p : M Nat}
def mKeysT (ml : M Nat) : M (List D) := mBind ml fun l δ => match δ.s[l]? with
  | some (.ft kvs) => .ok (keysD kvs) δ
  | _ => .bad
/-- while the dict at p is locked -/
def mLock {α : Type} (p : M Nat) (m : M α) : M α := fun δ => match p δ with
  | .ok l _ => (match δ.s[l]? with
    | some (.dt kvs) => (match m ⟨δ.e, δ.s.set l (.ft kvs)⟩ with
      | .ok x δ' => (match δ'.s[l]? with
        | some (.ft kvs') => .ok x ⟨δ'.e, δ'.s.set l (.dt kvs')⟩
        | _ => .bad)
      | _ => .bad)
    | _ => .bad)
  | _ => .bad
end
end Ds
namespace Ds
open PySem PySem.Spec PyProof.Rows L2 Dn
def tup1 : D → Bool
  | .tuple (_ :: _) => true
  | _ => false
def oth : D → Bool
  | .none => false
  | .tuple _ => false
  | _ => true
def sortB (ds : List D) : Bool := (ds.all fun d => ds.all fun e => PySem.W.alike d e) && (ds.all tup1 || ds.all oth) && (ds.all fun d => decide (d.depth ≤ 8)) && decide (ds.length ≤ sizeLine)
def sortD (ds : List D) : List D := ds.mergeSort (PySem.W.dataLe false id)
section
variable {X : Cx} {E : XQ} {o : Expr} {pos p : Pos} {ml : M Nat} {m : M D}
/-- sorted of data -/
def mSortL (m : M D) : M D := mBind m fun d => mOpt (match d with
  | .list ds => if sortB ds then some (.list (sortD ds)) else none
  | _ => none)
/-- sorted of a dict with tuple keys -/
def mSortDT (ml : M Nat) : M D := mBind ml fun l δ => match tkAt δ.s l with
  | some kvs => if sortB (keysD kvs) then .ok (.list (sortD (keysD kvs))) δ else .bad
  | none => .bad
end
end Ds
namespace Ds
open PySem PySem.Spec PyProof.Rows L2 Dn
def mBad {α : Type} : M α := fun _ => .bad
section
variable {X : Cx} {E : XQ} {a b : Expr} {pos p p' : Pos} {ma mb : M D}
theorem js_bad {st : Stmt} : PS X st (tOfS X.K E mBad) := ⟨fun pins s σ H D I h => by
  obtain ⟨G, g, δ, re, po⟩ := h
  exact po.elim⟩
def mListR1 (m : M D) : M D := mBind m fun d => mOpt (match d with
  | .int j => if inLine j = true ∧ (j - 0).toNat ≤ 16777216 then some (.list (rngD 0 (j - 0).toNat)) else none
  | _ => none)
end
end Ds
namespace Ds
open PySem PySem.Spec PyProof.Rows L2 Dn
section
variable {X : Cx} {E : XQ} {e : Expr} {m : M D} {mc : M Cl} {k : Nat} {p1 p2 p3 pos : Pos}
variable {o : Expr} {ml : M Nat} {mk : M D}
theorem jt_din (hu : X.A.units + 64 < cLine) (hi : PE X e (tOf X.K E mk)) (ho : PE X o (tOfL X.K E ml)) (h1 : behindInMarks .In o = false) : PT X (.Compare e [.In] [o] pos) (tOfT X.K E (mTest (mDIn false mk ml))) :=
  pt_imp (pt_cmp (pc_din (by omega) hi ho) h1) fun σ H Q q => testS (t := tDIn (tOf X.K E mk) (tOfL X.K E ml)) (fun σ H Q ⟨G, g, δ, re, po⟩ => tOf.step re po fun y d g1 H1 δ1 e1 re1 r1 po1 => tOfL.step re1 po1 fun q l g2 H2 δ2 e2 re2 r2 po2 => by
    split at po2
    · rename_i kvs k hx hk
      obtain ⟨vs, h1, h2⟩ := re2.dkAt r2 hx
      refine ⟨q, valV vs k, rfl, ?_, ?_⟩
      · rw [toK_v r1 hk]; exact DGet.k h1
      · rw [h2.isSome k]; exact Post.of po2 re2 _ (.bl _)
    · exact po2.elim) q
theorem jt_dnotin (hu : X.A.units + 64 < cLine) (hi : PE X e (tOf X.K E mk)) (ho : PE X o (tOfL X.K E ml)) (h1 : behindInMarks .NotIn o = false) : PT X (.Compare e [.NotIn] [o] pos) (tOfT X.K E (mTest (mDIn true mk ml))) :=
  pt_imp (pt_cmp (pc_dnotin (by omega) hi ho) h1) fun σ H Q q => testS (t := tDNotIn (tOf X.K E mk) (tOfL X.K E ml)) (fun σ H Q ⟨G, g, δ, re, po⟩ => tOf.step re po fun y d g1 H1 δ1 e1 re1 r1 po1 => tOfL.step re1 po1 fun q l g2 H2 δ2 e2 re2 r2 po2 => by
    split at po2
    · rename_i kvs k hx hk
      obtain ⟨vs, h1, h2⟩ := re2.dkAt r2 hx
      refine ⟨q, valV vs k, rfl, ?_, ?_⟩
      · rw [toK_v r1 hk]; exact DGet.k h1
      · rw [h2.isSome k]; exact Post.of po2 re2 _ (.bl _)
    · exact po2.elim) q
end
end Ds
namespace Ds
open PySem PySem.Spec PyProof.Rows L2 Dn
def bStr : List D → Option D
  | [.int i] => if i.natAbs.log2 < 1920 then some (.str (toString i)) else none
  | [.str a] => some (.str a)
  | _ => none
def rStrA : List V → Hp → VK → Prop := fun xs H Q => (∃ i, xs = [.int i] ∧ i.natAbs.log2 < 1920 ∧ Q (.str (toString i)) H) ∨ (∃ a, xs = [.str a] ∧ Q (.str a) H)
theorem call_strA {X : Cx} : CallR X (.type "str") rStrA := call_str_int.or SkE.call_str_str
theorem cs_strA {K : Frag} : CallS K rStrA bStr := fun Hs H vs ds c Q ex t hg k => by
  cases t with
  | nil => simp [bStr] at hg
  | cons r t =>
    cases t with
    | cons _ _ => cases r <;> simp [bStr] at hg
    | nil =>
      cases r with
      | int i =>
        simp only [bStr, Option.ite_none_right_eq_some, Option.some.injEq] at hg
        obtain ⟨h1, rfl⟩ := hg
        exact .inl ⟨i, rfl, h1, k _ Hs H (.refl ex) (.str _)⟩
      | str a =>
        obtain rfl := Option.some.inj hg
        exact .inr ⟨a, rfl, k _ Hs H (.refl ex) (.str _)⟩
      | _ => simp [bStr] at hg
def bIntS : List D → Option D
  | [.str a] => if a.length ≤ 640 then (PySem.intText? a).map PyData.int else none
  | _ => none
theorem cs_intS {K : Frag} : CallS K (fun xs H Q => ∃ a n, xs = [.str a] ∧ PySem.intText? a = some n ∧ a.length ≤ 640 ∧ Q (.int n) H) bIntS := fun Hs H vs ds c Q ex t hg k => by
  cases t with
  | nil => simp [bIntS] at hg
  | cons r t =>
    cases t with
    | cons _ _ => cases r <;> simp [bIntS] at hg
    | nil =>
      cases r with
      | str a =>
        simp only [bIntS, Option.ite_none_right_eq_some, Option.map_eq_some_iff] at hg
        obtain ⟨h1, n, h2, rfl⟩ := hg
        exact ⟨a, n, rfl, h2, h1, k _ Hs H (.refl ex) (.int _)⟩
      | _ => simp [bIntS] at hg
theorem KVs.none {K : Frag} {es : List DictEntry} {kvs : List (Str × D)} (h : KVs K es kvs) {z : Str} (q : lookS kvs z = none) : es.find? (·.key.isStr z) = none := by
  induction h with
  | nil => rfl
  | @cons e r x t v d0 kvs he hv hr _ ih =>
    have k1 : e.key.isStr z = (x == z) := by rw [he]; rfl
    unfold lookS at q ih
    rw [List.find?_cons] at q ⊢
    by_cases hx : x = z
    · rw [decide_eq_true hx] at q
      cases q
    · rw [decide_eq_false hx] at q
      have : (x == z) = false := by simpa using hx
      rw [k1, this]
      exact ih q
theorem findBy_none {es : Array DictEntry} {z : Str} (h : es.toList.find? (·.key.isStr z) = none) : findBy Value.isStrOf es z = none := by
  obtain ⟨l⟩ := es
  have q : (fun d : DictEntry => Value.isStrOf z d.key) = fun d => d.key.isStr z := funext fun d => (PySem.W.isStr_of z d.key).symm
  unfold findBy
  rw [List.find?_toArray, q]
  have h : l.find? (·.key.isStr z) = none := h
  rw [h]
  rfl
section
variable {X : Cx} {E : XQ} {e f o : Expr} {pos apos cpos : Pos} {m mz : M D} {ml : M Nat}
def mKGet2 (kvs : List (Str × D)) (m mz : M D) : M D := mBind m fun e => mBind mz fun z => mOpt ((toS e).map fun x => (lookS kvs x).getD z)
def rKGet2 (K : Frag) (w : World) (d : Addr) (kvs : List (Str × D)) (te tz : TE) : TE := fun σ H Q => te σ H fun y H1 => tz σ H1 fun z H2 => ∃ x, y = .str x ∧ (∀ d v, lookS kvs x = some d → (∀ H, Rp K H v d) → Q v H2) ∧ (lookS kvs x = none → Q z H2)
theorem pe_kget2 {kvs : List (Str × D)} {d : Addr} {te tz : TE} {x : Str} {p : Pos} (he : PE X e te) (hf : PE X f tz) (hg : Gl X x) (hm : X.mg x = some (.ref d)) (hk : KDv X.w X.K d kvs) (hd : (x == ("__debug__" : Str)) = false) (m : M2 X (.Name x p) "get" apos e f cpos) :
    PE X (.Call (.Attribute (.Name x p) "get" apos) [e, f] [] cpos) (rKGet2 X.K X.w d kvs te tz) := by
  obtain ⟨es, n, D, kv⟩ := hk
  refine ⟨fun pins s σ H Q I h => ?_⟩
  refine wpAny_Call_method m.base m.few m.line PySem.F.plainAttrs_dict PySem.F.slot_dict_get PySem.F.type_dict_get (thn ((pe_glob (v := .ref d) hg hm rfl hd).run pins s σ H (fun v H' => v = .ref d ∧ H' = H) I ⟨rfl, rfl⟩) fun u s1 ⟨x1, H1, I1, rx, ex, eh⟩ => ?_)
  subst ex eh
  obtain rfl : u = Value.ref d := rx
  have hl := I1.kIn d _ D.at_
  refine ⟨⟨_, hl, rfl⟩, fun b q => by cases q; exact ⟨_, hl, rfl⟩, ?_⟩
  rw [m.trees]
  refine Calls.callWith_builtin rfl (Calls.evalArgs_plain (Calls.spliced_cons (thn (he.run pins s1 σ H1 _ I1 h) fun iv s2 ⟨y, H2, I2, ry, q2⟩ =>
    Calls.spliced_cons (thn (hf.run pins s2 σ H2 _ I2 q2) fun fv s3 ⟨z, H3, I3, rz, x2, ey, g1, g2⟩ => Calls.spliced_nil ?_))))
  subst ey
  obtain ⟨t, rfl⟩ := ry
  have hm2 := PySem.W.mapOf_K (prog := X.prog) (w := X.w) I3.kIn D.at_ D.lit
  refine call_meetsIn PySem.F.slot_dict_get hm2.typeIs PySem.F.entry_dict_get (PySem.F.args_dict_get_3 _ _ _) (meets_dict_get_default (strKind X.prog X.w) d (strKind_is X.prog X.w x2 t) D.low fv) ⟨_, hm2, ?_⟩
  cases q : lookS kvs x2 with
  | none =>
    have h1 := kv.none q
    have h2 := findBy_none h1
    rw [h2]
    exact ⟨z, H3, I3.tok _, rz, g2 q⟩
  | some dd =>
    obtain ⟨v, k1, k2⟩ := KDv.at_ (K := X.K) (w := X.w) ⟨es, n, D, kv⟩ q
    obtain ⟨es', n', u, k3, k4, k5, k6⟩ := k1
    rw [D.at_] at k3
    cases k3
    have h2 := PySem.W.find_K D.at_ k5
    rw [h2]
    exact ⟨v, H3, I3.tok _, k6, g1 _ _ q k2⟩
theorem je_kget2 {kvs : List (Str × D)} {d : Addr} {x : Str} {p : Pos} (he : PE X e (tOf X.K E m)) (hf : PE X f (tOf X.K E mz)) (hg : Gl X x) (hm : X.mg x = some (.ref d)) (hk : KDv X.w X.K d kvs) (mm : M2 X (.Name x p) "get" apos e f cpos) (hd : (x == ("__debug__" : Str)) = false := by decide) :
    PE X (.Call (.Attribute (.Name x p) "get" apos) [e, f] [] cpos) (tOf X.K E (mKGet2 kvs m mz)) :=
  pe_imp (pe_kget2 he hf hg hm hk hd mm) fun σ H Q ⟨G, g, δ, re, po⟩ => by
    refine tOf.step re po fun v c g1 H1 δ1 e1 re1 r1 po1 => ?_
    refine tOf.step re1 po1 fun vz z g2 H2 δ2 e2 re2 r2 po2 => ?_
    obtain ⟨r, hr, po3⟩ := Post.opt po2
    obtain ⟨y, hy, hl⟩ := Option.map_eq_some_iff.mp hr
    cases r1 <;> simp [toS] at hy
    subst hy
    refine ⟨_, rfl, fun d0 v0 q hv => ?_, fun q => ?_⟩
    · rw [q] at hl
      subst hl
      exact Post.of po3 re2 v0 (hv _)
    · rw [q] at hl
      subst hl
      exact Post.of po3 re2 vz r2
/-- isinstance(x, (S, T)) -/
def isi2 (S T : String) (d : D) : Option Bool := match kitB (tyD d) S with
  | some true => some true
  | some false => kitB (tyD d) T
  | none => none
def mIsi2 (S T : String) (m : M D) : M D := mBind m fun d => mOpt ((isi2 S T d).map PyData.bool)
theorem je_isi2 {S T : Str} {S' T' : String} {p p' p2 p3 : Pos} {xc : Nat} (h : PE X e (tOf X.K E m)) (hg : Gl X "isinstance") (hm : X.mg "isinstance" = none) (hgS : Gl X S) (hmS : X.mg S = none) (hvS : bootBuiltins S = some (.type S')) (hgT : Gl X T) (hmT : X.mg T = none) (hvT : bootBuiltins T = some (.type T'))
    (hnS : S ≠ "__name__" := by decide) (hdS : (S == ("__debug__" : Str)) = false := by decide) (hnT : T ≠ "__name__" := by decide) (hdT : (T == ("__debug__" : Str)) = false := by decide)
    (he : starEach (e :: [.Tuple [.Name S p', .Name T p3] xc p2]) X.env = (false, eval e X.env) :: starEach [.Tuple [.Name S p', .Name T p3] xc p2] X.env := by rfl)
    (he2 : starEach [.Tuple [.Name S p', .Name T p3] xc p2] X.env = (false, eval (.Tuple [.Name S p', .Name T p3] xc p2) X.env) :: starEach [] X.env := by rfl)
    (he3 : starEach [.Name S p', .Name T p3] X.env = (false, eval (.Name S p') X.env) :: starEach [.Name T p3] X.env := by rfl)
    (he4 : starEach [.Name T p3] X.env = (false, eval (.Name T p3) X.env) :: starEach [] X.env := by rfl)
    (hpl : (backTo pos (starEach [.Tuple [.Name S p', .Name T p3] xc p2] X.env)).any (·.1) = false := by rfl) :
    PE X (.Call (.Name "isinstance" p) [e, .Tuple [.Name S p', .Name T p3] xc p2] [] pos) (tOf X.K E (mIsi2 S' T' m)) :=
  pe_imp (pe_callB call_isiT hg hm (by decide +kernel) (pa_cons h (pa_cons (pe_tup (pa_cons (pe_bltn (v := .ty S') hgS hmS hvS rfl hnS hdS) (pa_cons (pe_bltn (v := .ty T') hgT hmT hvT rfl hnT hdT) pa_nil he4) he3)) pa_nil he2) he) (by decide) (by decide) he hpl) fun σ H Q ⟨G, g, δ, re, po⟩ => by
    refine tOf.step re po fun v d g1 H1 δ1 e1 re1 r1 po1 => ?_
    obtain ⟨c, hc, po2⟩ := Post.opt po1
    obtain ⟨b, hb, hc⟩ := Option.map_eq_some_iff.mp hc
    subst hc
    refine ⟨by show 2 ≤ sizeLine; rw [sizeLine_eq]; omega, fun p hp => ⟨v, p, [.ty S', .ty T'], _, [.type S', .type T'], b, rfl, upd_same, .cons (.ty _) (.cons (.ty _) .nil), ty_of (re1.ex.trans (ex_new hp)) r1, ?_, Post.grow po2 re1 (Grw.new re1.ex hp) _ (.bl b)⟩⟩
    unfold isi2 at hb
    cases q : kitB (tyD d) S' with
    | none => rw [q] at hb; cases hb
    | some k =>
      rw [q] at hb
      refine kitAny_cons (kit_ty q) (fun z => ?_) fun z => ?_
      · subst z
        refine kitAny_cons (kit_ty hb) (fun z => ?_) fun z => z
        subst z
        exact kitAny_nil
      · subst z
        exact (Option.some.inj hb).symm
/-- o.f += n, o.f -= n -/
def mAugF (c : Str) (ml : M Nat) (f : Str) (F : Int → Int → Int) (k : Int) : M Fl := mBind ml fun l δ => match δ.s[l]? with
  | some (.ins c' fs) => if c' = c ∧ fs.length < 1000 then (match fs.lookup f with
    | some (.sh (.int i)) => .ok .nx ⟨δ.e, δ.s.set l (.ins c (putFC f (.sh (.int (F i k))) fs))⟩
    | _ => .bad) else .bad
  | _ => .bad
def rI2 (F : Int → Int → Int) : V → V → Hp → VK → Prop := fun x y H Q => ∃ i j, x = .int i ∧ y = .int j ∧ Q (.int (F i j)) H
theorem js_augF {c fl : Str} {C : Addr} {op : Operator} {F : Int → Int → Int} {k : Int} {tpos kp : Pos} {kk : Nat} (hC : clsA X.K c = some C) (hk : Cls X.K C) (n : NoAttr X.K C fl) (ho : PE X o (tOfL X.K E ml)) (hop : InOp X op (rI2 F)) : PS X (.AugAssign (.Attribute o fl tpos) op (.Constant (.int k) kk kp) pos) (tOfS X.K E (mAugF c ml fl F k)) :=
  pst_imp (ps_fldaug ho pe_int hop) fun B σ H ⟨G, g, δ, re, po⟩ => tOfL.stepS re po fun q l g2 H2 δ2 e2 re2 r2 po2 => by
    split at po2
    · rename_i c' fs hx
      split at po2
      · rename_i hc
        obtain ⟨hc, hl⟩ := hc
        subst hc
        obtain ⟨dx, vs, h1, h2⟩ := re2.insAt hC r2 hx
        split at po2
        · rename_i i hf
          rcases h2.look fl with ⟨z, _⟩ | ⟨v, y, k1, k2, k3⟩
          · rw [z] at hf; cases hf
          · rw [k1] at hf
            cases hf
            cases k3 with
            | sh k3 =>
              cases k3
              refine ⟨q, C, dx, vs, _, rfl, h1, hk, n, k2, ?_⟩
              refine ⟨_, _, rfl, rfl, dx, vs, h1, by rw [h2.length]; exact hl, PostS.of po2 (re2.write hx rfl r2 (.ins hC (h2.putF fl (.sh (.int _)))))⟩
        · exact po2.elim
      · exact po2.elim
    · exact po2.elim
end
end Ds
namespace Ds
open PySem PySem.Spec PyProof.Rows L2 Dn
abbrev Ev := List Cl
abbrev St := List Ob
@[irreducible] def Run {α : Type} (m : M α) (e : Ev) (s : St) (Q : α → Ev → St → Prop) : Prop := match m ⟨e, s⟩ with
  | .ok a x => Q a x.e x.s
  | _ => False
@[irreducible] def FRun (F : Fn) (as : Ev) (s : St) (Q : Cl → St → Prop) : Prop := match F as s with
  | .ok c s' => Q c s'
  | _ => False
section
variable {α β : Type} {e : Ev} {s : St} {m : M D}
theorem Run.i {m : M α} {Q : α → Ev → St → Prop} (h : match m ⟨e, s⟩ with
  | .ok a x => Q a x.e x.s
  | _ => False) : Run m e s Q := by unfold Run; exact h
theorem run_pure {a : α} {Q : α → Ev → St → Prop} (h : Q a e s) : Run (mPure a) e s Q := Run.i h
theorem Run.mono {m : M α} {Q Q' : α → Ev → St → Prop} (h : Run m e s Q) (k : ∀ a e' s', Q a e' s' → Q' a e' s') : Run m e s Q' := by
  unfold Run at *
  cases q : m ⟨e, s⟩ with
  | ok a x => rw [q] at h; exact k a x.e x.s h
  | exc y x => rw [q] at h; exact h
  | bad => rw [q] at h; exact h
theorem FRun.mono {F : Fn} {as : Ev} {Q Q' : Cl → St → Prop} (h : FRun F as s Q) (k : ∀ a s', Q a s' → Q' a s') : FRun F as s Q' := by
  unfold FRun at *
  cases q : F as s with
  | ok a x => rw [q] at h; exact k a x h
  | exc y x => rw [q] at h; exact h
  | bad => rw [q] at h; exact h
theorem FRun.to {F : Fn} {as : Ev} {Q : Cl → St → Prop} (h : FRun F as s Q) : ∃ c s', F as s = .ok c s' ∧ Q c s' := by
  unfold FRun at h
  cases q : F as s with
  | ok a x => rw [q] at h; exact ⟨a, x, rfl, h⟩
  | exc y x => rw [q] at h; exact h.elim
  | bad => rw [q] at h; exact h.elim
theorem run_bind {m : M α} {f : α → M β} {Q : β → Ev → St → Prop} (h : Run m e s fun a e' s' => Run (f a) e' s' Q) : Run (mBind m f) e s Q := by
  unfold Run at *
  unfold mBind
  cases q : m ⟨e, s⟩ with
  | ok a x => rw [q] at h; exact h
  | exc y x => rw [q] at h; exact h
  | bad => rw [q] at h; exact h
theorem run_opt {o : Option α} {Q : α → Ev → St → Prop} (h : ∃ a, o = some a ∧ Q a e s) : Run (mOpt o) e s Q := by
  obtain ⟨a, h1, h2⟩ := h
  subst h1
  exact Run.i h2
theorem run_optB {o : Option α} {f : α → M β} {Q : β → Ev → St → Prop} (h : ∃ a, o = some a ∧ Run (f a) e s Q) : Run (mBind (mOpt o) f) e s Q := run_bind (run_opt h)
theorem run_var {i : Nat} {d : D} {Q : D → Ev → St → Prop} (h : e[i]? = some (Cl.sh d)) (k : Q d e s) : Run (mVar i) e s Q := by
  unfold Run mVar
  dsimp only
  rw [h]
  exact k
theorem run_lv {i l : Nat} {Q : Nat → Ev → St → Prop} (h : e[i]? = some (Cl.lo l)) (k : Q l e s) : Run (mLV i) e s Q := by
  unfold Run mLV
  dsimp only
  rw [h]
  exact k
theorem run_clD {i : Nat} {d : D} {Q : Cl → Ev → St → Prop} (h : e[i]? = some (Cl.sh d)) (k : Q (.sh d) e s) : Run (mCl i) e s Q := by
  unfold Run mCl
  dsimp only
  rw [h]
  exact k
theorem run_clL {i l : Nat} {Q : Cl → Ev → St → Prop} (h : e[i]? = some (Cl.lo l)) (k : Q (.lo l) e s) : Run (mCl i) e s Q := by
  unfold Run mCl
  dsimp only
  rw [h]
  exact k
theorem run_sh {Q : Cl → Ev → St → Prop} (h : Run m e s fun d e' s' => Q (.sh d) e' s') : Run (mSh m) e s Q := run_bind (h.mono fun _ _ _ h => run_pure h)
theorem run_lo {m : M Nat} {Q : Cl → Ev → St → Prop} (h : Run m e s fun d e' s' => Q (.lo d) e' s') : Run (mLo m) e s Q := run_bind (h.mono fun _ _ _ h => run_pure h)
theorem run_d {m : M Cl} {Q : D → Ev → St → Prop} (h : Run m e s fun c e' s' => ∃ d, toD c = some d ∧ Q d e' s') : Run (mD m) e s Q := run_bind (h.mono fun _ _ _ h => run_opt h)
theorem run_l {m : M Cl} {Q : Nat → Ev → St → Prop} (h : Run m e s fun c e' s' => ∃ d, toL c = some d ∧ Q d e' s') : Run (mL m) e s Q := run_bind (h.mono fun _ _ _ h => run_opt h)
theorem run_c {d : D} {Q : D → Ev → St → Prop} (k : Q d e s) : Run (mC d) e s Q := run_pure k
theorem run_bin {g : D → D → Option D} {ma mb : M D} {Q : D → Ev → St → Prop} (h : Run ma e s fun d e1 s1 => Run mb e1 s1 fun c e2 s2 => ∃ r, g d c = some r ∧ Q r e2 s2) : Run (mBin g ma mb) e s Q :=
  run_bind (h.mono fun _ _ _ h => run_bind (h.mono fun _ _ _ h => run_opt h))
theorem run_test {Q : Bool → Ev → St → Prop} (h : Run m e s fun d e1 s1 => ∃ b, toB d = some b ∧ Q b e1 s1) : Run (mTest m) e s Q := run_bind (h.mono fun _ _ _ h => run_opt h)
theorem run_chain {g g' : D → D → Option D} {ma mb mc : M D} {Q : D → Ev → St → Prop} (h : Run ma e s fun d e1 s1 => Run mb e1 s1 fun c e2 s2 => ∃ r, g d c = some r ∧ ∃ b, toB r = some b ∧ (b = true → Run mc e2 s2 fun f e3 s3 => ∃ r, g' c f = some r ∧ Q r e3 s3) ∧ (b = false → Q (.bool false) e2 s2)) : Run (mChain g g' ma mb mc) e s Q :=
  run_bind (h.mono fun d _ _ h => run_bind (h.mono fun c _ _ ⟨r, h1, b, h2, h3, h4⟩ => run_optB ⟨b, by rw [h1]; exact h2, by
    cases b with
    | true => exact run_bind ((h3 rfl).mono fun _ _ _ h => run_opt h)
    | false => exact run_pure (h4 rfl)⟩))
theorem run_ag0 {Q : List Cl → Ev → St → Prop} (k : Q [] e s) : Run (evA []) e s Q := Run.i k
theorem run_agC {m : M Cl} {as : List (M Cl)} {Q : List Cl → Ev → St → Prop} (h : Run m e s fun c e1 s1 => Run (evA as) e1 s1 fun cs e2 s2 => Q (c :: cs) e2 s2) : Run (evA (m :: as)) e s Q := run_bind (h.mono fun _ _ _ h => run_bind (h.mono fun _ _ _ h => run_pure h))
theorem run_callB {g : List D → Option D} {as : List (M Cl)} {Q : D → Ev → St → Prop} (h : Run (evA as) e s fun cs e1 s1 => ∃ ds, shL cs = some ds ∧ ∃ c, g ds = some c ∧ Q c e1 s1) : Run (mCallB g as) e s Q :=
  run_bind (h.mono fun cs _ _ ⟨ds, h1, c, h2, h3⟩ => run_opt ⟨c, by rw [h1]; exact h2, h3⟩)
theorem run_callC {g : List D → Option D} {as : List (M Cl)} {Q : D → Ev → St → Prop} (h : Run (evA as) e s fun cs e1 s1 => ∃ ds, snaps s1 cs = some ds ∧ ∃ c, g ds = some c ∧ flatD c = true ∧ Q c e1 s1) : Run (mCallC g as) e s Q :=
  run_bind (h.mono fun cs _ _ ⟨ds, h1, c, h2, h3, h4⟩ => Run.i (by
    dsimp only
    rw [h1, Option.bind_some, h2]
    dsimp only
    rw [if_pos h3]
    exact h4))
theorem run_call {F : Fn} {as : List (M Cl)} {Q : Cl → Ev → St → Prop} (h : Run (evA as) e s fun cs e1 s1 => FRun F cs s1 fun c s2 => Q c e1 s2) : Run (mCall F as) e s Q :=
  run_bind (h.mono fun cs e1 s1 h => Run.i (by
    obtain ⟨c, s2, h1, h2⟩ := h.to
    dsimp only
    rw [h1]
    exact h2))
theorem run_ixC {m : M D} {mc : M Cl} {Q : Cl → Ev → St → Prop} (h : Run mc e s fun c e1 s1 => Run m e1 s1 fun i e2 s2 => ∃ k, ixC s2 c i = some k ∧ Q k e2 s2) : Run (mIxC mc m) e s Q :=
  run_bind (h.mono fun c e1 s1 h => run_bind (h.mono fun i e2 s2 ⟨k, h1, h2⟩ => Run.i (by
    dsimp only
    rw [h1]
    exact h2)))
theorem run_slC {mc : M Cl} {ml mh : M (Option Int)} {Q : D → Ev → St → Prop} (h : Run mc e s fun c e1 s1 => Run ml e1 s1 fun l e2 s2 => Run mh e2 s2 fun u e3 s3 => ∃ d, snap s3 c = some d ∧ ∃ r, dSl d l u = some r ∧ Q r e3 s3) : Run (mSlC mc ml mh) e s Q :=
  run_bind (h.mono fun c _ _ h => run_bind (h.mono fun l _ _ h => run_bind (h.mono fun u _ _ ⟨d, h1, r, h2, h3⟩ => Run.i (by
    dsimp only
    rw [h1]
    dsimp only
    rw [h2]
    exact h3))))
theorem run_sl {ml mh : M (Option Int)} {Q : D → Ev → St → Prop} (h : Run m e s fun d e1 s1 => Run ml e1 s1 fun l e2 s2 => Run mh e2 s2 fun u e3 s3 => ∃ c, dSl d l u = some c ∧ Q c e3 s3) : Run (mSl m ml mh) e s Q := run_bind (h.mono fun _ _ _ h => run_bind (h.mono fun _ _ _ h => run_bind (h.mono fun _ _ _ h => run_opt h)))
theorem run_part {Q : Option Int → Ev → St → Prop} (h : Run m e s fun d e1 s1 => ∃ c, toI d = some c ∧ Q c e1 s1) : Run (mPart m) e s Q := run_bind (h.mono fun _ _ _ h => run_opt h)
theorem run_noPart {Q : Option Int → Ev → St → Prop} (h : Q none e s) : Run mNoPart e s Q := run_pure h
theorem run_isi {Tn : String} {Q : D → Ev → St → Prop} (h : Run m e s fun d e1 s1 => ∃ b, kitB (tyD d) Tn = some b ∧ Q (.bool b) e1 s1) : Run (mIsi Tn m) e s Q :=
  run_bind (h.mono fun d _ _ ⟨b, h1, h2⟩ => run_opt ⟨_, by rw [h1]; rfl, h2⟩)
theorem run_m1 {g : Str → List D → Option D} {mo : M D} {Q : D → Ev → St → Prop} (h : Run mo e s fun d e1 s1 => ∃ z, toS d = some z ∧ Run m e1 s1 fun a e2 s2 => ∃ c, g z [a] = some c ∧ Q c e2 s2) : Run (mM1 g mo m) e s Q :=
  run_bind (h.mono fun _ _ _ ⟨z, h1, h2⟩ => run_optB ⟨z, h1, run_bind (h2.mono fun _ _ _ h => run_opt h)⟩)
theorem run_m1C {g : Str → List D → Option D} {mo : M D} {mc : M Cl} {Q : D → Ev → St → Prop} (h : Run mo e s fun d e1 s1 => ∃ z, toS d = some z ∧ Run mc e1 s1 fun c e2 s2 => ∃ d, snap s2 c = some d ∧ ∃ r, g z [d] = some r ∧ flatD r = true ∧ Q r e2 s2) : Run (mM1C g mo mc) e s Q :=
  run_bind (h.mono fun _ _ _ ⟨z, h1, h2⟩ => run_optB ⟨z, h1, run_bind (h2.mono fun c _ _ ⟨d, h3, r, h4, h5, h6⟩ => Run.i (by
    dsimp only
    rw [h3, Option.bind_some, h4]
    dsimp only
    rw [if_pos h5]
    exact h6))⟩)
theorem run_binC {g : D → D → Option D} {mc mk : M Cl} {Q : D → Ev → St → Prop} (h : Run mc e s fun c e1 s1 => Run mk e1 s1 fun k e2 s2 => ∃ a b, snap s2 c = some a ∧ snap s2 k = some b ∧ ∃ r, g a b = some r ∧ flatD r = true ∧ Q r e2 s2) : Run (mBinC g mc mk) e s Q :=
  run_bind (h.mono fun _ _ _ h => run_bind (h.mono fun _ _ _ ⟨a, b, h1, h2, r, h3, h4, h5⟩ => Run.i (by
    dsimp only
    rw [h1, h2, Option.bind_some, Option.bind_some, h3]
    dsimp only
    rw [if_pos h4]
    exact h5)))
theorem run_shs {as : List (M Cl)} {Q : List D → Ev → St → Prop} (h : Run (evA as) e s fun cs e1 s1 => ∃ ds, shL cs = some ds ∧ ds.length ≤ sizeLine ∧ Q ds e1 s1) : Run (mShs as) e s Q :=
  run_bind (h.mono fun gs _ _ ⟨ds, h1, h2, h3⟩ => run_opt ⟨ds, by rw [h1]; simp [Option.filter, h2], h3⟩)
theorem run_tup {as : List (M Cl)} {Q : D → Ev → St → Prop} (h : Run (evA as) e s fun cs e1 s1 => ∃ ds, shL cs = some ds ∧ ds.length ≤ sizeLine ∧ Q (.tuple ds) e1 s1) : Run (mTup as) e s Q := run_bind (run_shs (h.mono fun _ _ _ ⟨ds, a, b, c⟩ => ⟨ds, a, b, run_pure c⟩))
theorem run_lst {as : List (M Cl)} {Q : D → Ev → St → Prop} (h : Run (evA as) e s fun cs e1 s1 => ∃ ds, shL cs = some ds ∧ ds.length ≤ sizeLine ∧ Q (.list ds) e1 s1) : Run (mLst as) e s Q := run_bind (run_shs (h.mono fun _ _ _ ⟨ds, a, b, c⟩ => ⟨ds, a, b, run_pure c⟩))
theorem run_lsO {as : List (M Cl)} {Q : List Cl → Ev → St → Prop} (h : Run (evA as) e s fun cs e1 s1 => cs.length ≤ sizeLine ∧ Q cs e1 s1) : Run (mLsO as) e s Q := run_bind (h.mono fun cs _ _ ⟨a, b⟩ => run_opt ⟨cs, if_pos a, b⟩)
theorem run_fr {m : M (List Cl)} {Q : D → Ev → St → Prop} (h : Run m e s fun cs e1 s1 => ∃ ds, shL cs = some ds ∧ Q (.list ds) e1 s1) : Run (mFr m) e s Q := run_bind (h.mono fun cs _ _ ⟨ds, a, b⟩ => run_opt ⟨_, by rw [a]; rfl, b⟩)
theorem run_new {m : M (List Cl)} {Q : Nat → Ev → St → Prop} (h : Run m e s fun cs e1 s1 => Q s1.length e1 (s1 ++ [.lst cs])) : Run (mNew m) e s Q := run_bind (h.mono fun cs _ _ h => Run.i h)
theorem run_seal {m : M Nat} {Q : D → Ev → St → Prop} (h : Run m e s fun l e1 s1 => ∃ xs ds, s1[l]? = some (.lst xs) ∧ shL xs = some ds ∧ Q (.list ds) e1 (s1.set l .gone)) : Run (mSeal m) e s Q :=
  run_bind (h.mono fun l _ _ ⟨xs, ds, h1, h2, h3⟩ => Run.i (by
    dsimp only
    rw [h1]
    dsimp only
    rw [h2]
    exact h3))
theorem run_listOf {mc : M Cl} {Q : List Cl → Ev → St → Prop} (h : Run mc e s fun c e1 s1 => ∃ d xs, snap s1 c = some d ∧ itemsD d = some xs ∧ Q (xs.map Cl.sh) e1 s1) : Run (mListOf mc) e s Q :=
  run_bind (run_agC (h.mono fun c _ s1 ⟨d, xs, h1, h2, h3⟩ => run_ag0 (Run.i (by
    dsimp only
    have : snaps s1 [c] = some [d] := by unfold snaps; rw [h1]; rfl
    rw [this]
    dsimp only
    rw [h2]
    exact h3))))
theorem run_tupOf {mc : M Cl} {Q : D → Ev → St → Prop} (h : Run mc e s fun c e1 s1 => ∃ d xs, snap s1 c = some d ∧ itemsD d = some xs ∧ Q (.tuple xs) e1 s1) : Run (mTupOf mc) e s Q :=
  run_bind (run_agC (h.mono fun c _ s1 ⟨d, xs, h1, h2, h3⟩ => run_ag0 (Run.i (by
    dsimp only
    have : snaps s1 [c] = some [d] := by unfold snaps; rw [h1]; rfl
    rw [this]
    dsimp only
    rw [h2]
    exact h3))))
theorem run_catO {mc mk : M Cl} {Q : List Cl → Ev → St → Prop} (h : Run mc e s fun c e1 s1 => Run mk e1 s1 fun k e2 s2 => ∃ xs ys, snap s2 c = some (.list xs) ∧ snap s2 k = some (.list ys) ∧ xs.length + ys.length ≤ sizeLine ∧ Q ((xs ++ ys).map Cl.sh) e2 s2) : Run (mCatO mc mk) e s Q :=
  run_bind (h.mono fun _ _ _ h => run_bind (h.mono fun _ _ _ ⟨xs, ys, h1, h2, h3, h4⟩ => Run.i (by
    dsimp only
    rw [h1, h2]
    dsimp only
    rw [if_pos h3]
    exact h4)))
theorem run_texts {f : List Str → D} {mc : M Cl} {Q : D → Ev → St → Prop} (h : Run mc e s fun c e1 s1 => ∃ d xs ts, snap s1 c = some d ∧ itemsD d = some xs ∧ toSs xs = some ts ∧ ts.length + 1 < scanBound ∧ Q (f (metT ts)) e1 s1) : Run (mTexts f mc) e s Q :=
  run_bind (h.mono fun c _ _ ⟨d, xs, ts, h1, h2, h3, h4, h5⟩ => Run.i (by
    dsimp only
    rw [h1, Option.bind_some, h2, Option.bind_some, h3]
    dsimp only
    rw [if_pos h4]
    exact h5))
theorem run_kin {neg : Bool} {ks : List Str} {Q : D → Ev → St → Prop} (h : Run m e s fun d e1 s1 => ∃ z, toS d = some z ∧ Q (.bool (if neg then !ks.contains z else ks.contains z)) e1 s1) : Run (mKIn neg ks m) e s Q := run_bind (h.mono fun _ _ _ ⟨z, h1, h2⟩ => run_opt ⟨_, by rw [h1]; rfl, h2⟩)
theorem run_dget {ml : M Nat} {mk : M D} {Q : Cl → Ev → St → Prop} (h : Run ml e s fun l e1 s1 => Run mk e1 s1 fun d e2 s2 => ∃ kvs k c, s2[l]? = some (.dk kvs) ∧ toK d = some k ∧ valC kvs k = some c ∧ Q c e2 s2) : Run (mDGet ml mk) e s Q :=
  run_bind (h.mono fun l _ _ h => run_bind (h.mono fun d _ _ ⟨kvs, k, c, h1, h2, h3, h4⟩ => Run.i (by
    dsimp only
    rw [h1, h2]
    dsimp only
    rw [h3]
    exact h4)))
theorem run_dput {ml : M Nat} {mk : M D} {mc : M Cl} {Q : Fl → Ev → St → Prop} (h : Run mc e s fun c e1 s1 => Run ml e1 s1 fun l e2 s2 => Run mk e2 s2 fun d e3 s3 => ∃ kvs k, s3[l]? = some (.dk kvs) ∧ toK d = some k ∧ kvs.length < sizeLine ∧ Q .nx e3 (s3.set l (.dk (putC kvs k c)))) : Run (mDPut ml mk mc) e s Q :=
  run_bind (h.mono fun _ _ _ h => run_bind (h.mono fun _ _ _ h => run_bind (h.mono fun _ _ _ ⟨kvs, k, h1, h2, h3, h4⟩ => Run.i (by
    dsimp only
    rw [h1, h2]
    dsimp only
    rw [if_pos h3]
    exact h4))))
theorem run_din {neg : Bool} {ml : M Nat} {mk : M D} {Q : D → Ev → St → Prop} (h : Run mk e s fun d e1 s1 => Run ml e1 s1 fun l e2 s2 => ∃ kvs k, s2[l]? = some (.dk kvs) ∧ toK d = some k ∧ Q (.bool (if neg then !(valC kvs k).isSome else (valC kvs k).isSome)) e2 s2) : Run (mDIn neg mk ml) e s Q :=
  run_bind (h.mono fun _ _ _ h => run_bind (h.mono fun _ _ _ ⟨kvs, k, h1, h2, h3⟩ => Run.i (by
    dsimp only
    rw [h1, h2]
    exact h3)))
theorem run_dnew {Q : Nat → Ev → St → Prop} (h : Q s.length e (s ++ [.dk []])) : Run mDNew e s Q := Run.i h
theorem run_p0 {Q : List (Key × Cl) → Ev → St → Prop} (k : Q [] e s) : Run (evP []) e s Q := Run.i k
theorem run_p1 {mk : M D} {mc : M Cl} {r : List (M D × M Cl)} {Q : List (Key × Cl) → Ev → St → Prop} (h : Run mk e s fun d e1 s1 => ∃ k, toK d = some k ∧ Run mc e1 s1 fun c e2 s2 => Run (evP r) e2 s2 fun ps e3 s3 => Q ((k, c) :: ps) e3 s3) : Run (evP ((mk, mc) :: r)) e s Q :=
  run_bind (h.mono fun _ _ _ ⟨k, h1, h2⟩ => run_optB ⟨k, h1, run_bind (h2.mono fun _ _ _ h => run_bind (h.mono fun _ _ _ h => run_pure h))⟩)
theorem run_disp {ps : List (M D × M Cl)} {Q : Nat → Ev → St → Prop} (h : Run (evP ps) e s fun kvs e1 s1 => kvs.length ≤ 15 ∧ Q s1.length e1 (s1 ++ [.dk (mergeC [] kvs)])) : Run (mDisp ps) e s Q :=
  run_bind (h.mono fun kvs _ _ ⟨h1, h2⟩ => run_optB ⟨(), if_pos h1, Run.i h2⟩)
theorem run_isDk {l : Nat} {Q : Nat → Ev → St → Prop} (h : ∃ kvs, s[l]? = some (.dk kvs) ∧ Q l e s) : Run (isDk l) e s Q := by
  obtain ⟨kvs, h1, h2⟩ := h
  refine Run.i ?_
  unfold isDk
  dsimp only
  rw [h1]
  exact h2
theorem run_upd {ml mo : M Nat} {Q : Fl → Ev → St → Prop} (h : Run ml e s fun l e1 s1 => ∃ k0, s1[l]? = some (.dk k0) ∧ Run mo e1 s1 fun k e2 s2 => ∃ kvs more, s2[l]? = some (.dk kvs) ∧ s2[k]? = some (.dk more) ∧ (l ≠ k ∧ kvs.length + more.length ≤ sizeLine) ∧ Q .nx e2 (s2.set l (.dk (mergeC kvs more)))) : Run (mUpd ml mo) e s Q :=
  run_bind (h.mono fun l _ _ ⟨k0, h0, h⟩ => run_bind (run_isDk ⟨k0, h0, run_bind (h.mono fun k _ _ ⟨kvs, more, h1, h2, h3, h4⟩ => Run.i (by
    dsimp only
    rw [h1, h2]
    dsimp only
    rw [if_pos h3]
    exact h4))⟩))
theorem run_isLst {l : Nat} {Q : Nat → Ev → St → Prop} (h : ∃ xs, s[l]? = some (.lst xs) ∧ Q l e s) : Run (isLst l) e s Q := by
  obtain ⟨kvs, h1, h2⟩ := h
  refine Run.i ?_
  unfold isLst
  dsimp only
  rw [h1]
  exact h2
theorem run_app {ml : M Nat} {mc : M Cl} {Q : Fl → Ev → St → Prop} (h : Run ml e s fun l e1 s1 => ∃ x0, s1[l]? = some (.lst x0) ∧ Run mc e1 s1 fun c e2 s2 => ∃ xs, s2[l]? = some (.lst xs) ∧ xs.length < sizeLine ∧ Q .nx e2 (s2.set l (.lst (xs ++ [c])))) : Run (mApp ml mc) e s Q :=
  run_bind (run_bind (h.mono fun l _ _ ⟨x0, h0, h⟩ => run_isLst ⟨x0, h0, run_bind (h.mono fun c _ _ ⟨xs, h1, h2, h3⟩ => Run.i (by
    dsimp only
    rw [h1]
    dsimp only
    rw [if_pos h2]
    exact h3))⟩))
theorem run_popAt {ml : M Nat} {mi : M D} {Q : Cl → Ev → St → Prop} (h : Run ml e s fun l e1 s1 => ∃ x0, s1[l]? = some (.lst x0) ∧ Run mi e1 s1 fun d e2 s2 => ∃ xs n c, s2[l]? = some (.lst xs) ∧ d = .int n ∧ (0 ≤ n ∧ n < xs.length ∧ xs.length ≤ sizeLine) ∧ xs[n.toNat]? = some c ∧ Q c e2 (s2.set l (.lst (xs.eraseIdx n.toNat)))) : Run (mPopAt ml mi) e s Q :=
  run_bind (run_bind (h.mono fun l _ _ ⟨x0, h0, h⟩ => run_isLst ⟨x0, h0, run_bind (h.mono fun d _ _ ⟨xs, n, c, h1, h2, h3, h4, h5⟩ => Run.i (by
    subst h2
    dsimp only
    rw [h1]
    dsimp only
    rw [if_pos h3, h4]
    exact h5))⟩))
theorem run_ext {ml : M Nat} {mc : M Cl} {Q : Fl → Ev → St → Prop} (h : Run ml e s fun l e1 s1 => ∃ x0, s1[l]? = some (.lst x0) ∧ Run mc e1 s1 fun c e2 s2 => ∃ xs d ds, s2[l]? = some (.lst xs) ∧ snap s2 c = some d ∧ itemsD d = some ds ∧ xs.length + ds.length ≤ sizeLine ∧ Q .nx e2 (s2.set l (.lst (xs ++ ds.map Cl.sh)))) : Run (mExt ml mc) e s Q :=
  run_bind (run_bind (h.mono fun l _ _ ⟨x0, h0, h⟩ => run_isLst ⟨x0, h0, run_bind (h.mono fun c _ _ ⟨xs, d, ds, h1, h2, h3, h4, h5⟩ => Run.i (by
    dsimp only
    rw [h1, h2, Option.bind_some, h3]
    dsimp only
    rw [if_pos h4]
    exact h5))⟩))
theorem run_setIx {ml : M Nat} {mi : M D} {mc : M Cl} {Q : Fl → Ev → St → Prop} (h : Run mc e s fun c e1 s1 => Run ml e1 s1 fun l e2 s2 => Run mi e2 s2 fun d e3 s3 => ∃ xs n j, s3[l]? = some (.lst xs) ∧ d = .int n ∧ ixN xs.length n = some j ∧ Q .nx e3 (s3.set l (.lst (xs.set j c)))) : Run (mSetIx ml mi mc) e s Q :=
  run_bind (h.mono fun _ _ _ h => run_bind (h.mono fun _ _ _ h => run_bind (h.mono fun _ _ _ ⟨xs, n, j, h1, h2, h3, h4⟩ => Run.i (by
    subst h2
    dsimp only
    rw [h1]
    dsimp only
    rw [h3]
    exact h4))))
theorem run_ifb {b : Bool} {m1 m2 : M α} {Q : α → Ev → St → Prop} (h1 : b = true → Run m1 e s Q) (h2 : b = false → Run m2 e s Q) : Run (if b = true then m1 else m2) e s Q := by
  cases b with
  | true => exact h1 rfl
  | false => exact h2 rfl
theorem run_andT {t1 t2 : M Bool} {Q : Bool → Ev → St → Prop} (h : Run t1 e s fun b e1 s1 => (b = true → Run t2 e1 s1 Q) ∧ (b = false → Q false e1 s1)) : Run (mAndT t1 t2) e s Q := run_bind (h.mono fun b _ _ h => run_ifb h.1 fun z => run_pure (h.2 z))
theorem run_orT {t1 t2 : M Bool} {Q : Bool → Ev → St → Prop} (h : Run t1 e s fun b e1 s1 => (b = true → Q true e1 s1) ∧ (b = false → Run t2 e1 s1 Q)) : Run (mOrT t1 t2) e s Q := run_bind (h.mono fun b _ _ h => run_ifb (fun z => run_pure (h.1 z)) h.2)
theorem run_notT {t : M Bool} {Q : Bool → Ev → St → Prop} (h : Run t e s fun b e1 s1 => Q (!b) e1 s1) : Run (mNotT t) e s Q := run_bind (h.mono fun _ _ _ h => run_pure h)
theorem run_andV {m1 m2 : M D} {Q : D → Ev → St → Prop} (h : Run m1 e s fun d e1 s1 => ∃ b, toB d = some b ∧ (b = true → Run m2 e1 s1 Q) ∧ (b = false → Q (.bool false) e1 s1)) : Run (mAndV m1 m2) e s Q := run_bind (run_test (h.mono fun _ _ _ ⟨b, h1, h2, h3⟩ => ⟨b, h1, run_ifb h2 fun z => run_pure (h3 z)⟩))
theorem run_orV {m1 m2 : M D} {Q : D → Ev → St → Prop} (h : Run m1 e s fun d e1 s1 => ∃ b, toB d = some b ∧ (b = true → Q (.bool true) e1 s1) ∧ (b = false → Run m2 e1 s1 Q)) : Run (mOrV m1 m2) e s Q := run_bind (run_test (h.mono fun _ _ _ ⟨b, h1, h2, h3⟩ => ⟨b, h1, run_ifb (fun z => run_pure (h2 z)) h3⟩))
theorem run_notV {Q : D → Ev → St → Prop} (h : Run m e s fun d e1 s1 => ∃ b, toB d = some b ∧ Q (.bool (!b)) e1 s1) : Run (mNotV m) e s Q := run_bind (run_test (h.mono fun _ _ _ ⟨b, h1, h2⟩ => ⟨b, h1, run_pure h2⟩))
theorem run_ifE {t : M Bool} {m1 m2 : M D} {Q : D → Ev → St → Prop} (h : Run t e s fun b e1 s1 => (b = true → Run m1 e1 s1 Q) ∧ (b = false → Run m2 e1 s1 Q)) : Run (mIfE t m1 m2) e s Q := run_bind (h.mono fun b _ _ h => run_ifb h.1 h.2)
theorem run_neg {Q : D → Ev → St → Prop} (h : Run m e s fun d e1 s1 => ∃ c, dNeg d = some c ∧ Q c e1 s1) : Run (mNeg m) e s Q := run_bind (h.mono fun _ _ _ h => run_opt h)
theorem run_nx {Q : Fl → Ev → St → Prop} (h : Q .nx e s) : Run mNx e s Q := run_pure h
theorem run_seq {m1 m2 : M Fl} {Q : Fl → Ev → St → Prop} (h : Run m1 e s fun fl e1 s1 => (fl = .nx → Run m2 e1 s1 Q) ∧ (fl ≠ .nx → Q fl e1 s1)) : Run (mSeq m1 m2) e s Q := by
  unfold Run at *
  unfold mSeq
  cases q : m1 ⟨e, s⟩ with
  | ok fl x =>
    rw [q] at h
    cases fl with
    | nx =>
      have z := h.1 rfl
      exact z
    | rt c => exact h.2 (by simp)
    | bk => exact h.2 (by simp)
    | ct => exact h.2 (by simp)
  | exc y x => rw [q] at h; exact h
  | bad => rw [q] at h; exact h
theorem run_expr {m : M Cl} {Q : Fl → Ev → St → Prop} (h : Run m e s fun _ e1 s1 => Q .nx e1 s1) : Run (mExpr m) e s Q := run_bind (h.mono fun _ _ _ h => run_pure h)
theorem run_ret {m : M Cl} {Q : Fl → Ev → St → Prop} (h : Run m e s fun c e1 s1 => Q (.rt c) e1 s1) : Run (mRet m) e s Q := run_bind (h.mono fun _ _ _ h => run_pure h)
theorem run_ifS {t : M Bool} {m1 m2 : M Fl} {Q : Fl → Ev → St → Prop} (h : Run t e s fun b e1 s1 => (b = true → Run m1 e1 s1 Q) ∧ (b = false → Run m2 e1 s1 Q)) : Run (mIfS t m1 m2) e s Q := run_bind (h.mono fun b _ _ h => run_ifb h.1 h.2)
theorem run_set {i : Nat} {m : M Cl} {Q : Fl → Ev → St → Prop} (h : Run m e s fun c e1 s1 => Q .nx (e1.set i c) s1) : Run (mSet i m) e s Q := run_bind (h.mono fun _ _ _ h => Run.i h)
theorem run_asg {g : MG Cl} {m : M Cl} {Q : Fl → Ev → St → Prop} (h : Run m e s fun c e1 s1 => ∃ e', g c e1 = some e' ∧ Q .nx e' s1) : Run (mAsg g m) e s Q :=
  run_bind (h.mono fun _ _ _ ⟨e', h1, h2⟩ => Run.i (by dsimp only; rw [h1]; exact h2))
theorem run_iter {Q : List D → Ev → St → Prop} (h : Run m e s fun d e1 s1 => ∃ ds, dItems d = some ds ∧ Q ds e1 s1) : Run (mIter m) e s Q := run_bind (h.mono fun _ _ _ h => run_opt h)
theorem run_rng1 {Q : List D → Ev → St → Prop} (h : Run m e s fun d e1 s1 => ∃ ds, bRng1 d = some ds ∧ Q ds e1 s1) : Run (mRng1 m) e s Q := run_bind (h.mono fun _ _ _ h => run_opt h)
theorem run_rng2 {ma mb : M D} {Q : List D → Ev → St → Prop} (h : Run ma e s fun d e1 s1 => Run mb e1 s1 fun c e2 s2 => ∃ ds, bRng2 d c = some ds ∧ Q ds e2 s2) : Run (mRng2 ma mb) e s Q := run_bind (h.mono fun _ _ _ h => run_bind (h.mono fun _ _ _ h => run_opt h))
theorem run_for {mi : M (List D)} {g : MG Cl} {mb : M Fl} {Q : Fl → Ev → St → Prop} (h : Run mi e s fun ds e1 s1 => Run (forL g mb ds) e1 s1 Q) : Run (mFor mi g mb) e s Q := run_bind h
theorem run_forL {g : MG Cl} {mb : M Fl} {Q : Fl → Ev → St → Prop} (ds : List D) (I : Nat → Ev → St → Prop) (h0 : I 0 e s)
    (hs : ∀ (i : Nat) (d : D) (e : Ev) (s : St), ds[i]? = some d → I i e s → ∃ e1, g (.sh d) e = some e1 ∧ Run mb e1 s fun fl e2 s2 => (fl = .nx ∨ fl = .ct → I (i + 1) e2 s2) ∧ (fl = .bk → Q .nx e2 s2) ∧ (∀ c, fl = .rt c → Q (.rt c) e2 s2))
    (hd : ∀ e s, I ds.length e s → Q .nx e s) : Run (forL g mb ds) e s Q := by
  suffices H : ∀ (k i : Nat) (e : Ev) (s : St), i + k = ds.length → I i e s → Run (forL g mb (ds.drop i)) e s Q by
    have := H ds.length 0 e s (by omega) h0
    rwa [List.drop_zero] at this
  intro k
  induction k with
  | zero =>
    intro i e s hi hI
    have e' : i = ds.length := by omega
    subst e'
    rw [List.drop_length]
    exact Run.i (hd e s hI)
  | succ k ih =>
    intro i e s hi hI
    have hlt : i < ds.length := by omega
    obtain ⟨e1, h1, h2⟩ := hs i ds[i] e s (List.getElem?_eq_getElem hlt) hI
    rw [List.drop_eq_getElem_cons hlt]
    unfold Run forL
    dsimp only
    rw [h1]
    unfold Run at h2
    dsimp only
    cases q : mb ⟨e1, s⟩ with
    | ok fl x =>
      rw [q] at h2
      obtain ⟨a1, a2, a3⟩ := h2
      cases fl with
      | nx => have z := ih (i + 1) x.e x.s (by omega) (a1 (.inl rfl)); unfold Run at z; exact z
      | ct => have z := ih (i + 1) x.e x.s (by omega) (a1 (.inr rfl)); unfold Run at z; exact z
      | bk => exact a2 rfl
      | rt c => exact a3 c rfl
    | exc y x => rw [q] at h2; exact h2
    | bad => rw [q] at h2; exact h2
theorem run_forL_nil {g : MG Cl} {mb : M Fl} {Q : Fl → Ev → St → Prop} (h : Q .nx e s) : Run (forL g mb []) e s Q := Run.i h
theorem run_comp {mi : M (List D)} {vs : List Nat} {g : MG Cl} {mt : M Bool} {me : M D} {Q : List Cl → Ev → St → Prop}
    (h : Run mi e s fun ds e1 s1 => ds.length ≤ sizeLine ∧ Run (compL vs g mt me ds) (wipeE e1 vs) s1 fun ys e2 s2 => Q (ys.map Cl.sh) (backE e1 e2 vs) s2) : Run (mComp mi vs g mt me) e s Q :=
  run_bind (h.mono fun ds e1 s1 ⟨h1, h2⟩ => by
    unfold Run compE
    dsimp only
    rw [if_pos h1]
    unfold Run at h2
    cases q : compL vs g mt me ds ⟨wipeE e1 vs, s1⟩ with
    | ok ys x => rw [q] at h2; exact h2
    | exc y x => rw [q] at h2; exact h2
    | bad => rw [q] at h2; exact h2)
theorem run_compL {vs : List Nat} {g : MG Cl} {mt : M Bool} {me : M D} (ds : List D) (J : Nat → List D → Ev → St → Prop) {Q : List D → Ev → St → Prop} (h0 : J 0 [] e s)
    (hs : ∀ (i : Nat) (d : D) (ys : List D) (e : Ev) (s : St), ds[i]? = some d → J i ys e s → ∃ e1, g (.sh d) e = some e1 ∧ Run mt e1 s fun b e2 s2 => (b = true → Run me e2 s2 fun y e3 s3 => J (i + 1) (ys ++ [y]) (wipeE e3 vs) s3) ∧ (b = false → J (i + 1) ys (wipeE e2 vs) s2))
    (hd : ∀ ys e s, J ds.length ys e s → Q ys e s) : Run (compL vs g mt me ds) e s Q := by
  suffices H : ∀ (k i : Nat) (ys : List D) (e : Ev) (s : St), i + k = ds.length → J i ys e s → Run (compL vs g mt me (ds.drop i)) e s fun zs e2 s2 => Q (ys ++ zs) e2 s2 by
    have := H ds.length 0 [] e s (by omega) h0
    rw [List.drop_zero] at this
    exact this.mono fun _ _ _ h => h
  intro k
  induction k with
  | zero =>
    intro i ys e s hi hJ
    have e' : i = ds.length := by omega
    subst e'
    rw [List.drop_length]
    refine Run.i ?_
    show Q (ys ++ []) e s
    rw [List.append_nil]
    exact hd ys e s hJ
  | succ k ih =>
    intro i ys e s hi hJ
    have hlt : i < ds.length := by omega
    obtain ⟨e1, h1, h2⟩ := hs i ds[i] ys e s (List.getElem?_eq_getElem hlt) hJ
    rw [List.drop_eq_getElem_cons hlt]
    have z : Run (mBind mt (fun b => if b then mBind me (fun y => mBind (mWipe vs) fun _ => mBind (compL vs g mt me (ds.drop (i + 1))) fun ys => mPure (y :: ys)) else mBind (mWipe vs) fun _ => compL vs g mt me (ds.drop (i + 1)))) e1 s fun zs e2 s2 => Q (ys ++ zs) e2 s2 := by
      refine run_bind (h2.mono fun b e2 s2 h => run_ifb (fun hb => ?_) fun hb => ?_)
      · refine run_bind ((h.1 hb).mono fun y e3 s3 hJ' => run_bind (Run.i ?_))
        show Run (mBind (compL vs g mt me (ds.drop (i + 1))) fun ys => mPure (y :: ys)) (wipeE e3 vs) s3 _
        refine run_bind ((ih (i + 1) _ _ _ (by omega) hJ').mono fun zs e4 s4 q => Run.i ?_)
        show Q (ys ++ (y :: zs)) e4 s4
        rw [List.append_assoc] at q
        exact q
      · refine run_bind (Run.i ?_)
        show Run (compL vs g mt me (ds.drop (i + 1))) (wipeE e2 vs) s2 _
        exact ih (i + 1) _ _ _ (by omega) (h.2 hb)
    unfold Run at z ⊢
    unfold compL
    dsimp only
    rw [h1]
    exact z
theorem run_yes {Q : Bool → Ev → St → Prop} (h : Q true e s) : Run mYes e s Q := run_pure h
theorem frun_fn {n N : Nat} {mb : M Fl} {as : Ev} {Q : Cl → St → Prop} (hn : as.length = n) (h : Run mb (as ++ List.replicate (N - n) .no) s fun fl e1 s1 => (fl = .nx → Q (.sh .none) (trim s.length (.sh .none) s1)) ∧ (∀ c, fl = .rt c → Q c (trim s.length c s1)) ∧ fl ≠ .bk ∧ fl ≠ .ct) : FRun (fnF n N mb) as s Q := by
  unfold FRun fnF
  rw [if_pos hn]
  unfold Run at h
  cases q : mb ⟨as ++ List.replicate (N - n) .no, s⟩ with
  | ok fl x =>
    rw [q] at h
    obtain ⟨h1, h2, h3, h4⟩ := h
    cases fl with
    | nx => exact h1 rfl
    | rt c => exact h2 c rfl
    | bk => exact (h3 rfl).elim
    | ct => exact (h4 rfl).elim
  | exc y x => rw [q] at h; exact h
  | bad => rw [q] at h; exact h
end
end Ds
namespace Ds
open PySem PySem.Spec PyProof.Rows L2 Dn
section
variable {A B : Prop} {C : Cl → Prop} {c : Cl}
theorem seq_nx (h : A) : (Fl.nx = .nx → A) ∧ (Fl.nx ≠ .nx → B) := ⟨fun _ => h, fun z => absurd rfl z⟩
theorem seq_rt (h : B) : (Fl.rt c = .nx → A) ∧ (Fl.rt c ≠ .nx → B) := ⟨fun z => (nomatch z), fun _ => h⟩
theorem fin_rt (h : C c) : (Fl.rt c = .nx → A) ∧ (∀ c', Fl.rt c = .rt c' → C c') ∧ Fl.rt c ≠ .bk ∧ Fl.rt c ≠ .ct := ⟨fun z => (nomatch z), fun s' z => by cases z; exact h, by simp, by simp⟩
theorem fin_nx (h : A) : (Fl.nx = .nx → A) ∧ (∀ c', Fl.nx = .rt c' → C c') ∧ Fl.nx ≠ .bk ∧ Fl.nx ≠ .ct := ⟨fun _ => h, fun s' z => (nomatch z), by simp, by simp⟩
theorem turn_nx (h : A) : (Fl.nx = .nx ∨ Fl.nx = .ct → A) ∧ (Fl.nx = .bk → B) ∧ (∀ c', Fl.nx = .rt c' → C c') := ⟨fun _ => h, fun z => (nomatch z), fun s' z => (nomatch z)⟩
theorem turn_ct (h : A) : (Fl.ct = .nx ∨ Fl.ct = .ct → A) ∧ (Fl.ct = .bk → B) ∧ (∀ c', Fl.ct = .rt c' → C c') := ⟨fun _ => h, fun z => (nomatch z), fun s' z => (nomatch z)⟩
theorem turn_bk (h : B) : (Fl.bk = .nx ∨ Fl.bk = .ct → A) ∧ (Fl.bk = .bk → B) ∧ (∀ c', Fl.bk = .rt c' → C c') := ⟨fun z => by simp at z, fun _ => h, fun s' z => (nomatch z)⟩
theorem turn_rt (h : C c) : (Fl.rt c = .nx ∨ Fl.rt c = .ct → A) ∧ (Fl.rt c = .bk → B) ∧ (∀ c', Fl.rt c = .rt c' → C c') := ⟨fun z => by simp at z, fun z => (nomatch z), fun s' z => by cases z; exact h⟩
end
theorem two_Tb {A B : Prop} {b : Bool} (hb : b = true) (h : A) : (b = true → A) ∧ (b = false → B) := ⟨fun _ => h, fun z => absurd (hb.symm.trans z) (by decide)⟩
theorem two_Fb {A B : Prop} {b : Bool} (hb : b = false) (h : B) : (b = true → A) ∧ (b = false → B) := ⟨fun z => absurd (hb.symm.trans z) (by decide), fun _ => h⟩
theorem trim_len {n : Nat} {c : Cl} {s : St} (h : s.length = n) : trim n c s = s := by
  unfold trim
  split
  · rw [List.take_of_length_le (by omega)]
  · rfl
theorem trim_get {n : Nat} {c : Cl} {s : St} {j : Nat} (h : j < n) : (trim n c s)[j]? = s[j]? := by
  unfold trim
  split
  · rw [List.getElem?_take_of_lt h]
  · rfl
theorem trim_ge {n : Nat} {c : Cl} {s : St} (h : n ≤ s.length) : n ≤ (trim n c s).length := trim_le h
theorem shL_map : ∀ ds : List D, shL (ds.map Cl.sh) = some ds
  | [] => rfl
  | d :: ds => by rw [List.map_cons]; unfold shL; rw [shL_map ds]; rfl
theorem snap_list {s : St} {l : Nat} {ds : List D} (h : s[l]? = some (.lst (ds.map Cl.sh))) : snap s (.lo l) = some (.list ds) := by
  show (match s[l]? with
    | some (.lst xs) => (shL xs).map PyData.list
    | _ => none) = _
  rw [h]
  dsimp only
  rw [shL_map]
  rfl
theorem set_same {s : St} {l : Nat} {o : Ob} (h : l < s.length) : (s.set l o)[l]? = some o := List.getElem?_set_self h
theorem set_other {s : St} {l j : Nat} {o : Ob} (h : j ≠ l) : (s.set l o)[j]? = s[j]? := List.getElem?_set_ne (Ne.symm h)
theorem app_old {s : St} {j : Nat} {o : Ob} (h : j < s.length) : (s ++ [o])[j]? = s[j]? := List.getElem?_append_left h
theorem app_new {s : St} {o : Ob} : (s ++ [o])[s.length]? = some o := by
  rw [List.getElem?_append_right (Nat.le_refl _), Nat.sub_self]
  rfl
theorem lt_of_at {s : St} {l : Nat} {o : Ob} (h : s[l]? = some o) : l < s.length := (List.getElem?_eq_some_iff.mp h).1
/-- x[i], a list of the store with data at i -/
theorem ixC_lo {s : St} {l : Nat} {xs : List Cl} {i : Int} {c : Cl} (h : s[l]? = some (.lst xs)) (h2 : atI xs i = some c) : ixC s (.lo l) (.int i) = some c := by
  show (match s[l]?, (PyData.int i) with
    | some (.lst xs), .int i => atI xs i
    | _, _ => none) = _
  rw [h]
  exact h2
theorem ixC_sh {s : St} {d e r : D} (h : dIx d e = some r) : ixC s (.sh d) e = some (.sh r) := by
  show (dIx d e).map Cl.sh = _
  rw [h]
  rfl
end Ds
namespace Ds
open PySem PySem.Spec PyProof.Rows L2 Dn
section
variable {α β : Type} {e : Ev} {s : St} {m : M D}
theorem run_enum {Q : List D → Ev → St → Prop} (h : Run m e s fun d e1 s1 => ∃ ds, dItems d = some ds ∧ Q (enumD ds) e1 s1) : Run (mEnum m) e s Q :=
  run_bind (h.mono fun _ _ _ ⟨ds, a, b⟩ => run_opt ⟨_, by rw [a]; rfl, b⟩)
theorem run_zip {ma mb : M D} {Q : List D → Ev → St → Prop} (h : Run ma e s fun d e1 s1 => Run mb e1 s1 fun c e2 s2 => ∃ ds es, dItems d = some ds ∧ dItems c = some es ∧ Q (zipD ds es) e2 s2) : Run (mZip ma mb) e s Q :=
  run_bind (h.mono fun _ _ _ h => run_bind (h.mono fun _ _ _ ⟨ds, es, a, b, c⟩ => run_opt ⟨_, by rw [a, b]; rfl, c⟩))
theorem run_rng3 {ma mb mc : M D} {Q : List D → Ev → St → Prop} (h : Run ma e s fun d e1 s1 => Run mb e1 s1 fun c e2 s2 => Run mc e2 s2 fun k e3 s3 => ∃ ds, bRng3 d c k = some ds ∧ Q ds e3 s3) : Run (mRng3 ma mb mc) e s Q :=
  run_bind (h.mono fun _ _ _ h => run_bind (h.mono fun _ _ _ h => run_bind (h.mono fun _ _ _ h => run_opt h)))
theorem run_kget {kvs : List (Str × D)} {Q : D → Ev → St → Prop} (h : Run m e s fun d e1 s1 => ∃ z r, toS d = some z ∧ lookS kvs z = some r ∧ Q r e1 s1) : Run (mKGet kvs m) e s Q :=
  run_bind (h.mono fun _ _ _ ⟨z, r, a, b, c⟩ => run_opt ⟨r, by rw [a]; exact b, c⟩)
theorem run_sortD {ml : M Nat} {Q : D → Ev → St → Prop} (h : Run ml e s fun l e1 s1 => ∃ kvs ks, s1[l]? = some (.dk kvs) ∧ keysS kvs = some ks ∧ ks.length < 64 ∧ Q (.list ((sortT ks).map PyData.str)) e1 s1) : Run (mSortD ml) e s Q :=
  run_bind (h.mono fun l _ _ ⟨kvs, ks, h1, h2, h3, h4⟩ => Run.i (by
    dsimp only
    rw [h1]
    dsimp only
    rw [h2]
    dsimp only
    rw [if_pos h3]
    exact h4))
theorem run_dget2 {ml : M Nat} {mk : M D} {mc : M Cl} {Q : Cl → Ev → St → Prop} (h : Run ml e s fun l e1 s1 => ∃ k0, s1[l]? = some (.dk k0) ∧ Run mk e1 s1 fun d e2 s2 => Run mc e2 s2 fun z e3 s3 => ∃ kvs k, s3[l]? = some (.dk kvs) ∧ toK d = some k ∧ Q ((valC kvs k).getD z) e3 s3) : Run (mDGet2 ml mk mc) e s Q :=
  run_bind (h.mono fun l _ _ ⟨k0, h0, h⟩ => run_bind (run_isDk ⟨k0, h0, run_bind (h.mono fun d _ _ h => run_bind (h.mono fun z _ _ ⟨kvs, k, h1, h2, h3⟩ => Run.i (by
    dsimp only
    rw [h1, h2]
    exact h3)))⟩))
/-- while: n turns at most are left -/
theorem run_while {t : M Bool} {mb : M Fl} {k : Nat} {Q : Fl → Ev → St → Prop} (I : Nat → Ev → St → Prop) (n0 : Nat) (hk : n0 < k) (h0 : I n0 e s)
    (hs : ∀ n e s, I n e s → Run t e s fun b e1 s1 => (b = true → Run mb e1 s1 fun fl e2 s2 => (fl = .nx ∨ fl = .ct → ∃ n', n' < n ∧ I n' e2 s2) ∧ (fl = .bk → Q .nx e2 s2) ∧ (∀ c, fl = .rt c → Q (.rt c) e2 s2)) ∧ (b = false → Q .nx e1 s1)) :
    Run (mWhile t mb k) e s Q := by
  induction k generalizing n0 e s with
  | zero => omega
  | succ k ih =>
    have h := hs n0 e s h0
    unfold Run at h ⊢
    unfold mWhile
    cases q : t ⟨e, s⟩ with
    | bad => rw [q] at h; exact h
    | exc x δ => rw [q] at h; exact h
    | ok b δ =>
      rw [q] at h
      obtain ⟨h1, h2⟩ := h
      cases b with
      | false => exact h2 rfl
      | true =>
        have h3 := h1 rfl
        unfold Run at h3
        have e1 : (⟨δ.e, δ.s⟩ : Sx) = δ := rfl
        rw [e1] at h3
        dsimp only
        cases z : mb δ with
        | bad => rw [z] at h3; exact h3
        | exc x δ' => rw [z] at h3; exact h3
        | ok fl δ' =>
          rw [z] at h3
          obtain ⟨a1, a2, a3⟩ := h3
          have go : ∀ {n' : Nat}, n' < n0 → I n' δ'.e δ'.s → Run (mWhile t mb k) δ'.e δ'.s Q := fun hl hi => ih _ (by omega) hi
          cases fl with
          | nx =>
            obtain ⟨n', hl, hi⟩ := a1 (.inl rfl)
            have := go hl hi
            unfold Run at this
            exact this
          | ct =>
            obtain ⟨n', hl, hi⟩ := a1 (.inr rfl)
            have := go hl hi
            unfold Run at this
            exact this
          | bk => exact a2 rfl
          | rt c => exact a3 c rfl
/-- a comprehension told by functions; I: what stays true of the store -/
theorem run_compF {vs : List Nat} {g : MG Cl} {mt : M Bool} {me : M D} {Q : List D → Ev → St → Prop} (ds : List D) (p : D → Bool) (f : D → D) (I : St → Prop) (h0 : I s)
    (hs : ∀ d ∈ ds, ∀ s, I s → ∃ e1, g (.sh d) e = some e1 ∧ Run mt e1 s fun b e2 s2 => b = p d ∧ (b = true → Run me e2 s2 fun y e3 s3 => y = f d ∧ wipeE e3 vs = e ∧ I s3) ∧ (b = false → wipeE e2 vs = e ∧ I s2))
    (fin : ∀ s, I s → Q ((ds.filter p).map f) e s) : Run (compL vs g mt me ds) e s Q := by
  refine run_compL ds (fun i ys e' s' => e' = e ∧ I s' ∧ ys = ((ds.take i).filter p).map f) ⟨rfl, h0, by simp⟩ (fun i d ys e' s' hd ⟨he, hI, hy⟩ => ?_) fun ys e' s' ⟨he, hI, hy⟩ => ?_
  · subst he; subst hy
    obtain ⟨e1, h1, h2⟩ := hs d (List.mem_of_getElem? hd) s' hI
    refine ⟨e1, h1, h2.mono fun b e2 s2 ⟨hb, ht, hf⟩ => ⟨fun hb' => (ht hb').mono fun y e3 s3 ⟨a, b', c⟩ => ⟨b', c, ?_⟩, fun hb' => ?_⟩⟩
    · rw [filter_take_succ p ds i d hd, ← hb, hb', a]
      simp
    · obtain ⟨a, b'⟩ := hf hb'
      refine ⟨a, b', ?_⟩
      rw [filter_take_succ p ds i d hd, ← hb, hb']
      simp
  · subst he; subst hy
    rw [List.take_length]
    exact fin s' hI
end
theorem canAll : ∀ {ds : List D}, (∀ d ∈ ds, d.canLay0 = true) → PyData.canLayAll0 ds = true
  | [], _ => rfl
  | d :: ds, h => by
    rw [PyData.canLayAll0, h d List.mem_cons_self, canAll fun x hx => h x (List.mem_cons_of_mem _ hx)]
    rfl
theorem depAll {n : Nat} : ∀ {ds : List D}, (∀ d ∈ ds, d.depth ≤ n) → PyData.depthAll ds ≤ n
  | [], _ => Nat.zero_le _
  | d :: ds, h => by
    rw [PyData.depthAll]
    exact Nat.max_le.mpr ⟨h d List.mem_cons_self, depAll fun x hx => h x (List.mem_cons_of_mem _ hx)⟩
/-- data that == takes, so deep -/
def Sh (n : Nat) (d : D) : Prop := d.canLay0 = true ∧ d.depth ≤ n
theorem Sh.mono {n m : Nat} {d : D} (h : Sh n d) (k : n ≤ m) : Sh m d := ⟨h.1, Nat.le_trans h.2 k⟩
theorem Sh.tup {n : Nat} {ds : List D} (h : ∀ d ∈ ds, Sh n d) : Sh (n + 1) (.tuple ds) := ⟨canAll fun d hd => (h d hd).1, by rw [PyData.depth]; exact Nat.succ_le_succ (depAll fun d hd => (h d hd).2)⟩
theorem Sh.lst {n : Nat} {ds : List D} (h : ∀ d ∈ ds, Sh n d) : Sh (n + 1) (.list ds) := ⟨canAll fun d hd => (h d hd).1, by rw [PyData.depth]; exact Nat.succ_le_succ (depAll fun d hd => (h d hd).2)⟩
theorem Sh.str {n k : Nat} {x : Str} (h : Ok n x) : Sh k (.str x) := ⟨h.strOk, Nat.zero_le _⟩
theorem Sh.int {k : Nat} {i : Int} : Sh k (.int i) := ⟨rfl, Nat.zero_le _⟩
theorem Sh.strs {n k : Nat} {xs : List Str} (h : ∀ x ∈ xs, Ok n x) : Sh (k + 1) (.tuple (xs.map PyData.str)) := Sh.tup fun d hd => by
  obtain ⟨x, hx, rfl⟩ := List.mem_map.mp hd
  exact Sh.str (h x hx)
theorem Sh.ok {n : Nat} {d : D} (h : Sh n d) (k : n ≤ 64 := by decide) : SeqAt.shaped d = true := by
  unfold SeqAt.shaped
  rw [h.1, decide_eq_true (Nat.le_trans h.2 k)]
  rfl
theorem Sh.same {n : Nat} {d : D} (h : Sh n d) : PyData.eqv d d = true := PySem.SeqAt.eqv_refl d h.1
theorem trim_lo {n l : Nat} {s : St} (h : n ≤ l) : trim n (.lo l) s = s := by
  unfold trim
  rw [if_neg]
  intro z
  have : Cl.below n (.lo l) = true := by
    have := (Bool.and_eq_true _ _ ▸ z : _ ∧ _).1
    exact this
  simp [Cl.below] at this
  omega
/-- nothing of the old changes -/
def Fz (s s' : St) : Prop := s.length ≤ s'.length ∧ ∀ j, j < s.length → s'[j]? = s[j]?
theorem Fz.refl (s : St) : Fz s s := ⟨Nat.le_refl _, fun _ _ => rfl⟩
theorem Fz.trans {s s1 s2 : St} (h : Fz s s1) (k : Fz s1 s2) : Fz s s2 := ⟨Nat.le_trans h.1 k.1, fun j hj => (k.2 j (Nat.lt_of_lt_of_le hj h.1)).trans (h.2 j hj)⟩
theorem Fz.trim {c : Cl} {s s' : St} (h : Fz s s') : Fz s (trim s.length c s') := ⟨trim_ge h.1, fun j hj => (trim_get hj).trans (h.2 j hj)⟩
theorem Fz.app {o : Ob} {s : St} : Fz s (s ++ [o]) := ⟨by simp, fun j hj => app_old hj⟩
theorem Fz.put {l : Nat} {o : Ob} {s0 s : St} (h : Fz s0 s) (hl : s0.length ≤ l) : Fz s0 (s.set l o) := ⟨by simpa using h.1, fun j hj => (set_other (by omega)).trans (h.2 j hj)⟩
theorem Fz.at_ {l : Nat} {o : Ob} {s s' : St} (h : Fz s s') (k : s[l]? = some o) : s'[l]? = some o := (h.2 l (lt_of_at k)).trans k
theorem drop_at {ds : List D} {i : Nat} {d : D} (h : ds[i]? = some d) : ds.drop i = d :: ds.drop (i + 1) := by
  have hl := (List.getElem?_eq_some_iff.mp h).1
  rw [List.drop_eq_getElem_cons hl]
  rw [List.getElem?_eq_getElem hl] at h
  rw [Option.some.inj h]
theorem run_forR {e : Ev} {s : St} {g : MG Cl} {mb : M Fl} {Q : Fl → Ev → St → Prop} (ds : List D) (I : List D → Ev → St → Prop) (h0 : I ds e s)
    (hs : ∀ (d : D) (r : List D) (e : Ev) (s : St), I (d :: r) e s → ∃ e1, g (.sh d) e = some e1 ∧ Run mb e1 s fun fl e2 s2 => (fl = .nx ∨ fl = .ct → I r e2 s2) ∧ (fl = .bk → Q .nx e2 s2) ∧ (∀ c, fl = .rt c → Q (.rt c) e2 s2))
    (hd : ∀ e s, I [] e s → Q .nx e s) : Run (forL g mb ds) e s Q :=
  run_forL ds (fun i e s => I (ds.drop i) e s) (by rw [List.drop_zero]; exact h0) (fun i d e s h hI => hs d _ e s (by rw [drop_at h] at hI; exact hI)) fun e s hI => hd e s (by rw [List.drop_length] at hI; exact hI)
theorem two_join {e : Ev} {s : St} {b : Bool} {m1 m2 rest : M Fl} {Q : Fl → Ev → St → Prop} (P : Ev → St → Prop) (h1 : b = true → Run m1 e s fun fl e1 s1 => fl = .nx ∧ P e1 s1) (h2 : b = false → Run m2 e s fun fl e1 s1 => fl = .nx ∧ P e1 s1) (h : ∀ e1 s1, P e1 s1 → Run rest e1 s1 Q) :
    (b = true → Run m1 e s fun fl e1 s1 => (fl = .nx → Run rest e1 s1 Q) ∧ (fl ≠ .nx → Q fl e1 s1)) ∧ (b = false → Run m2 e s fun fl e1 s1 => (fl = .nx → Run rest e1 s1 Q) ∧ (fl ≠ .nx → Q fl e1 s1)) :=
  ⟨fun z => (h1 z).mono fun fl e1 s1 ⟨a, p⟩ => ⟨fun _ => h _ _ p, fun n => absurd a n⟩, fun z => (h2 z).mono fun fl e1 s1 ⟨a, p⟩ => ⟨fun _ => h _ _ p, fun n => absurd a n⟩⟩
end Ds
namespace Ds
open PySem PySem.Spec PyProof.Rows L2 Dn
section
variable {α β : Type} {e : Ev} {s : St} {m : M D}
theorem run_tget {ml : M Nat} {mk : M D} {Q : Cl → Ev → St → Prop} (h : Run ml e s fun l e1 s1 => Run mk e1 s1 fun d e2 s2 => ∃ kvs k c, tkAt s2 l = some kvs ∧ toTK d = some k ∧ valC kvs k = some c ∧ Q c e2 s2) : Run (mTGet ml mk) e s Q :=
  run_bind (h.mono fun l _ _ h => run_bind (h.mono fun d _ _ ⟨kvs, k, c, h1, h2, h3, h4⟩ => Run.i (by
    dsimp only
    rw [h1, h2]
    dsimp only
    rw [h3]
    exact h4)))
theorem run_isDt {l : Nat} {Q : Nat → Ev → St → Prop} (h : ∃ kvs, tkAt s l = some kvs ∧ Q l e s) : Run (isDt l) e s Q := by
  obtain ⟨kvs, h1, h2⟩ := h
  refine Run.i ?_
  unfold isDt
  dsimp only
  rw [h1]
  exact h2
theorem run_tget2 {ml : M Nat} {mk : M D} {mc : M Cl} {Q : Cl → Ev → St → Prop} (h : Run ml e s fun l e1 s1 => ∃ k0, tkAt s1 l = some k0 ∧ Run mk e1 s1 fun d e2 s2 => Run mc e2 s2 fun z e3 s3 => ∃ kvs k, tkAt s3 l = some kvs ∧ toTK d = some k ∧ Q ((valC kvs k).getD z) e3 s3) : Run (mTGet2 ml mk mc) e s Q :=
  run_bind (h.mono fun l _ _ ⟨k0, h0, h⟩ => run_bind (run_isDt ⟨k0, h0, run_bind (h.mono fun d _ _ h => run_bind (h.mono fun z _ _ ⟨kvs, k, h1, h2, h3⟩ => Run.i (by
    dsimp only
    rw [h1, h2]
    exact h3)))⟩))
theorem run_tput {ml : M Nat} {mk : M D} {mc : M Cl} {Q : Fl → Ev → St → Prop} (h : Run mc e s fun c e1 s1 => Run ml e1 s1 fun l e2 s2 => Run mk e2 s2 fun d e3 s3 => ∃ kvs k, s3[l]? = some (.dt kvs) ∧ toTK d = some k ∧ kvs.length < sizeLine ∧ Q .nx e3 (s3.set l (.dt (putC kvs k c)))) : Run (mTPut ml mk mc) e s Q :=
  run_bind (h.mono fun _ _ _ h => run_bind (h.mono fun _ _ _ h => run_bind (h.mono fun _ _ _ ⟨kvs, k, h1, h2, h3, h4⟩ => Run.i (by
    dsimp only
    rw [h1, h2]
    dsimp only
    rw [if_pos h3]
    exact h4))))
theorem run_tin {neg : Bool} {ml : M Nat} {mk : M D} {Q : D → Ev → St → Prop} (h : Run mk e s fun d e1 s1 => Run ml e1 s1 fun l e2 s2 => ∃ kvs k, tkAt s2 l = some kvs ∧ toTK d = some k ∧ Q (.bool (if neg then !(valC kvs k).isSome else (valC kvs k).isSome)) e2 s2) : Run (mTIn neg mk ml) e s Q :=
  run_bind (h.mono fun _ _ _ h => run_bind (h.mono fun _ _ _ ⟨kvs, k, h1, h2, h3⟩ => Run.i (by
    dsimp only
    rw [h1, h2]
    exact h3)))
theorem run_tnew {Q : Nat → Ev → St → Prop} (h : Q s.length e (s ++ [.dt []])) : Run mTNew e s Q := Run.i h
theorem run_fld {c f : Str} {ml : M Nat} {Q : Cl → Ev → St → Prop} (h : Run ml e s fun l e1 s1 => ∃ fs x, s1[l]? = some (.ins c fs) ∧ fs.lookup f = some x ∧ Q x e1 s1) : Run (mFld c ml f) e s Q :=
  run_bind (h.mono fun l _ _ ⟨fs, x, h1, h2, h3⟩ => Run.i (by
    dsimp only
    rw [h1]
    dsimp only
    rw [if_pos rfl, h2]
    exact h3))
theorem run_setF {c f : Str} {ml : M Nat} {mc : M Cl} {Q : Fl → Ev → St → Prop} (h : Run mc e s fun x e1 s1 => Run ml e1 s1 fun l e2 s2 => ∃ fs, s2[l]? = some (.ins c fs) ∧ fs.length < 1000 ∧ Q .nx e2 (s2.set l (.ins c (putFC f x fs)))) : Run (mSetF c ml f mc) e s Q :=
  run_bind (h.mono fun _ _ _ h => run_bind (h.mono fun _ _ _ ⟨fs, h1, h2, h3⟩ => Run.i (by
    dsimp only
    rw [h1]
    dsimp only
    rw [if_pos ⟨rfl, h2⟩]
    exact h3)))
theorem run_isIns {c m : Str} {l : Nat} {Q : Nat → Ev → St → Prop} (h : ∃ fs, s[l]? = some (.ins c fs) ∧ fs.lookup m = none ∧ Q l e s) : Run (isIns c m l) e s Q := by
  obtain ⟨fs, h1, h2, h3⟩ := h
  refine Run.i ?_
  unfold isIns
  dsimp only
  rw [h1]
  dsimp only
  rw [if_pos ⟨rfl, h2⟩]
  exact h3
theorem run_meth {c m : Str} {F : Fn} {ml : M Nat} {as : List (M Cl)} {Q : Cl → Ev → St → Prop} (h : Run ml e s fun l e1 s1 => ∃ fs, s1[l]? = some (.ins c fs) ∧ fs.lookup m = none ∧ Run (evA as) e1 s1 fun cs e2 s2 => FRun F (.lo l :: cs) s2 fun x s3 => Q x e2 s3) : Run (mMeth c m F ml as) e s Q :=
  run_bind (h.mono fun l _ _ ⟨fs, h1, h2, h3⟩ => run_bind (run_isIns ⟨fs, h1, h2, run_bind (h3.mono fun cs e1 s1 h => Run.i (by
    obtain ⟨x, s2, q1, q2⟩ := h.to
    dsimp only
    rw [q1]
    exact q2))⟩))
theorem run_make {c : Str} {F : Fn} {as : List (M Cl)} {Q : Nat → Ev → St → Prop} (h : Run (evA as) e s fun cs e1 s1 => FRun F (.lo s1.length :: cs) (s1 ++ [.ins c []]) fun x s2 => x = .sh .none ∧ Q s1.length e1 s2) : Run (mMake c F as) e s Q :=
  run_bind (h.mono fun cs e1 s1 h => Run.i (by
    obtain ⟨x, s2, q1, rfl, q2⟩ := h.to
    dsimp only
    rw [q1]
    exact q2))
theorem run_mLock {p : M Nat} {m : M α} {Q : α → Ev → St → Prop} (h : Run p e s fun l _ _ => ∃ kvs, s[l]? = some (.dt kvs) ∧ Run m e (s.set l (.ft kvs)) fun x e1 s1 => ∃ kvs', s1[l]? = some (.ft kvs') ∧ Q x e1 (s1.set l (.dt kvs'))) : Run (mLock p m) e s Q := by
  refine Run.i ?_
  unfold mLock
  unfold Run at h
  cases q : p ⟨e, s⟩ with
  | ok l x =>
    rw [q] at h
    obtain ⟨kvs, h1, h2⟩ := h
    dsimp only
    rw [h1]
    dsimp only
    cases q2 : m ⟨e, s.set l (.ft kvs)⟩ with
    | ok y z =>
      rw [q2] at h2
      obtain ⟨kvs', h3, h4⟩ := h2
      dsimp only
      rw [h3]
      exact h4
    | exc y z => rw [q2] at h2; exact h2.elim
    | bad => rw [q2] at h2; exact h2.elim
  | exc y x => rw [q] at h; exact h.elim
  | bad => rw [q] at h; exact h.elim
theorem run_keysT {ml : M Nat} {Q : List D → Ev → St → Prop} (h : Run ml e s fun l e1 s1 => ∃ kvs, s1[l]? = some (.ft kvs) ∧ Q (keysD kvs) e1 s1) : Run (mKeysT ml) e s Q :=
  run_bind (h.mono fun l _ _ ⟨kvs, h1, h2⟩ => Run.i (by
    dsimp only
    rw [h1]
    exact h2))
theorem run_sortL {Q : D → Ev → St → Prop} (h : Run m e s fun d e1 s1 => ∃ ds, d = .list ds ∧ sortB ds = true ∧ Q (.list (sortD ds)) e1 s1) : Run (mSortL m) e s Q :=
  run_bind (h.mono fun d _ _ ⟨ds, h1, h2, h3⟩ => run_opt ⟨.list (sortD ds), by subst h1; dsimp only; rw [if_pos h2], h3⟩)
theorem run_sortDT {ml : M Nat} {Q : D → Ev → St → Prop} (h : Run ml e s fun l e1 s1 => ∃ kvs, tkAt s1 l = some kvs ∧ sortB (keysD kvs) = true ∧ Q (.list (sortD (keysD kvs))) e1 s1) : Run (mSortDT ml) e s Q :=
  run_bind (h.mono fun l _ _ ⟨kvs, h1, h2, h3⟩ => Run.i (by
    dsimp only
    rw [h1]
    dsimp only
    rw [if_pos h2]
    exact h3))
theorem run_listR1 {Q : D → Ev → St → Prop} (h : Run m e s fun d e1 s1 => ∃ j, d = .int j ∧ (inLine j = true ∧ (j - 0).toNat ≤ 16777216) ∧ Q (.list (rngD 0 (j - 0).toNat)) e1 s1) : Run (mListR1 m) e s Q :=
  run_bind (h.mono fun d _ _ ⟨j, h1, h2, h3⟩ => run_opt ⟨.list (rngD 0 (j - 0).toNat), by subst h1; dsimp only; rw [if_pos h2], h3⟩)
end
/-- all others as they were -/
def Fr (b : Nat) (s s' : St) : Prop := s.length ≤ s'.length ∧ ∀ j, j < s.length → j ≠ b → s'[j]? = s[j]?
theorem Fr.refl (b : Nat) (s : St) : Fr b s s := ⟨Nat.le_refl _, fun _ _ _ => rfl⟩
theorem Fr.trans {b : Nat} {s s1 s2 : St} (h : Fr b s s1) (k : Fr b s1 s2) : Fr b s s2 := ⟨Nat.le_trans h.1 k.1, fun j hj hb => (k.2 j (Nat.lt_of_lt_of_le hj h.1) hb).trans (h.2 j hj hb)⟩
theorem Fr.trim {b : Nat} {c : Cl} {s s' : St} (h : Fr b s s') : Fr b s (trim s.length c s') := ⟨trim_ge h.1, fun j hj hb => (trim_get hj).trans (h.2 j hj hb)⟩
theorem Fr.set {b : Nat} {o : Ob} {s : St} : Fr b s (s.set b o) := ⟨by simp, fun j _ hb => set_other hb⟩
theorem Fr.app {b : Nat} {o : Ob} {s : St} : Fr b s (s ++ [o]) := ⟨by simp, fun j hj _ => app_old hj⟩
theorem Fr.at_ {b l : Nat} {o : Ob} {s s' : St} (h : Fr b s s') (k : s[l]? = some o) (hb : l ≠ b) : s'[l]? = some o := (h.2 l (lt_of_at k) hb).trans k
theorem Fr.put {b l : Nat} {o : Ob} {s0 s : St} (h : Fr b s0 s) (hl : s0.length ≤ l) : Fr b s0 (s.set l o) := ⟨by simpa using h.1, fun j hj hb => (set_other (by omega)).trans (h.2 j hj hb)⟩
/-- the state of the draws -/
def S2 (l : Nat) (s : St) : Prop := ∃ a b : Int, s[l]? = some (.lst [.sh (.int a), .sh (.int b)]) ∧ 0 ≤ a ∧ 0 ≤ b ∧ b < 4294967296
theorem S2.lt {l : Nat} {s : St} (h : S2 l s) : l < s.length := by
  obtain ⟨a, b, h, _⟩ := h
  exact lt_of_at h
theorem S2.of {l : Nat} {s s' : St} (h : S2 l s) (k : s'[l]? = s[l]?) : S2 l s' := by
  obtain ⟨a, b, h, q⟩ := h
  exact ⟨a, b, k.trans h, q⟩
theorem S2.trim {l n : Nat} {k : Cl} {s : St} (h : S2 l s) (hb : l < n) : S2 l (trim n k s) := h.of (trim_get hb)
theorem S2.app {l : Nat} {o : Ob} {s : St} (h : S2 l s) : S2 l (s ++ [o]) := h.of (app_old h.lt)
end Ds
local macro_rules | `(tactic| walk_at "ds") => `(tactic| first
  | ((with_reducible apply Ds.run_var); (exact rfl))
  | ((with_reducible apply Ds.run_lv); (exact rfl))
  | ((with_reducible apply Ds.run_clD); (exact rfl))
  | ((with_reducible apply Ds.run_clL); (exact rfl))
  | with_reducible refine Ds.run_sh ?_
  | with_reducible refine Ds.run_lo ?_
  | with_reducible refine Ds.run_d ?_
  | with_reducible refine Ds.run_l ?_
  | with_reducible refine Ds.run_c ?_
  | with_reducible refine Ds.run_bin ?_
  | with_reducible refine Ds.run_seq ?_
  | with_reducible refine Ds.seq_nx ?_
  | with_reducible refine Ds.seq_rt ?_
  | with_reducible refine Ds.run_set ?_
  | with_reducible refine Ds.run_ret ?_
  | with_reducible refine Ds.run_ifS ?_
  | with_reducible refine Ds.run_test ?_
  | with_reducible refine Dn.toB_bl ?_
  | with_reducible refine Ds.run_chain ?_
  | with_reducible refine Ds.run_notT ?_
  | with_reducible refine Ds.run_andT ?_
  | with_reducible refine Ds.run_orT ?_
  | with_reducible refine Ds.run_andV ?_
  | with_reducible refine Ds.run_orV ?_
  | with_reducible refine Ds.run_notV ?_
  | with_reducible refine Ds.run_ifE ?_
  | with_reducible refine Ds.run_nx ?_
  | with_reducible refine Ds.run_yes ?_
  | with_reducible refine Ds.run_pure ?_
  | with_reducible refine Ds.run_agC ?_
  | with_reducible refine Ds.run_ag0 ?_
  | with_reducible refine Ds.run_p1 ?_
  | with_reducible refine Ds.run_p0 ?_
  | with_reducible refine Ds.run_callB ?_
  | with_reducible refine Ds.run_callC ?_
  | with_reducible refine Ds.run_call ?_
  | with_reducible refine Ds.run_isi ?_
  | with_reducible refine Ds.run_kin ?_
  | with_reducible refine Ds.run_m1 ?_
  | with_reducible refine Ds.run_m1C ?_
  | with_reducible refine Ds.run_ixC ?_
  | with_reducible refine Ds.run_slC ?_
  | with_reducible refine Ds.run_binC ?_
  | with_reducible refine Ds.run_tup ?_
  | with_reducible refine Ds.run_lst ?_
  | with_reducible refine Ds.run_lsO ?_
  | with_reducible refine Ds.run_fr ?_
  | with_reducible refine Ds.run_new ?_
  | with_reducible refine Ds.run_seal ?_
  | with_reducible refine Ds.run_listOf ?_
  | with_reducible refine Ds.run_tupOf ?_
  | with_reducible refine Ds.run_catO ?_
  | with_reducible refine Ds.run_texts ?_
  | with_reducible refine Ds.run_neg ?_
  | with_reducible refine Ds.run_sl ?_
  | with_reducible refine Ds.run_part ?_
  | with_reducible refine Ds.run_noPart ?_
  | with_reducible refine Ds.run_expr ?_
  | with_reducible refine Ds.run_dget ?_
  | with_reducible refine Ds.run_dput ?_
  | with_reducible refine Ds.run_din ?_
  | with_reducible refine Ds.run_dnew ?_
  | with_reducible refine Ds.run_disp ?_
  | with_reducible refine Ds.run_upd ?_
  | with_reducible refine Ds.run_setIx ?_
  | with_reducible refine Ds.run_app ?_
  | with_reducible refine Ds.run_ext ?_
  | with_reducible refine Ds.run_popAt ?_
  | with_reducible refine Ds.run_asg ?_
  | with_reducible refine Ds.run_iter ?_
  | with_reducible refine Ds.run_rng1 ?_
  | with_reducible refine Ds.run_rng2 ?_
  | with_reducible refine Ds.run_for ?_
  | with_reducible refine Ds.run_enum ?_
  | with_reducible refine Ds.run_zip ?_
  | with_reducible refine Ds.run_rng3 ?_
  | with_reducible refine Ds.run_kget ?_
  | with_reducible refine Ds.run_sortD ?_
  | with_reducible refine Ds.run_dget2 ?_
  | with_reducible refine Ds.run_tget ?_
  | with_reducible refine Ds.run_tget2 ?_
  | with_reducible refine Ds.run_tput ?_
  | with_reducible refine Ds.run_tin ?_
  | with_reducible refine Ds.run_tnew ?_
  | with_reducible refine Ds.run_fld ?_
  | with_reducible refine Ds.run_setF ?_
  | with_reducible refine Ds.run_meth ?_
  | with_reducible refine Ds.run_make ?_
  | with_reducible refine Ds.run_mLock ?_
  | with_reducible refine Ds.run_keysT ?_
  | with_reducible refine Ds.run_sortL ?_
  | with_reducible refine Ds.run_sortDT ?_
  | with_reducible refine Ds.run_listR1 ?_
  | with_reducible refine Ds.run_forL_nil ?_
  | with_reducible refine Ds.run_comp ?_
  | with_reducible refine Dn.bx_add_int ?_
  | with_reducible refine Dn.bx_sub ?_
  | with_reducible refine Dn.bx_lt ?_
  | with_reducible refine Dn.bx_le ?_
  | with_reducible refine Dn.bx_gt ?_
  | with_reducible refine Dn.bx_ge ?_
  | with_reducible refine Dn.bx_eq_int ?_
  | with_reducible refine Dn.bx_eq_str ?_
  | with_reducible refine Dn.bx_eq_bl ?_
  | with_reducible refine Dn.bx_ne_int ?_
  | with_reducible refine Dn.bx_ne_str ?_
  | with_reducible refine Dn.bx_ne_bl ?_
  | with_reducible refine Dn.bx_in_str ?_
  | with_reducible refine Dn.bx_nin_str ?_
  | with_reducible refine Dn.bx_is_bl ?_
  | with_reducible refine Dn.bx_isNot_bl ?_
  | with_reducible refine Dn.bx_is_non ?_
  | with_reducible refine Dn.bx_isNot_non ?_
  | with_reducible refine Dn.bx_sl_tup ?_
  | with_reducible refine Dn.bx_sl_lst ?_
  | with_reducible refine Dn.bx_neg ?_
  | with_reducible refine Dn.bx_len_lst ?_
  | with_reducible refine Dn.bx_len_tup ?_
  | ((with_reducible apply Dn.bx_len_str); (first | assumption | (apply Dn.line_of; omega)))
  | ((with_reducible apply Dn.bx_mod); (first | assumption | omega))
  | ((with_reducible apply Dn.bx_div); (first | assumption | omega))
  | ((with_reducible apply Dn.bx_mul); (first | assumption | omega))
  | ((with_reducible apply Dn.bx_pow); (decide))
  | ((with_reducible apply Dn.bx_rep); (first | assumption | (refine ⟨?_, ?_, of_decide_eq_true rfl⟩ <;> omega)))
  | ((with_reducible apply Dn.bx_add_str); (first | assumption | (apply Dn.line_of; omega)))
  | ((with_reducible apply Dn.bx_sl_str); (first | assumption | (apply Dn.line_of; omega)))
  | ((with_reducible apply Dn.bx_rng1); (first | assumption | (apply Dn.inLine_of; omega)))
  | ((with_reducible apply Dn.bx_isi_str); (first | assumption | rfl))
  | ((with_reducible apply Dn.bx_isi_bool); (first | assumption | rfl))
  | ((with_reducible apply Dn.bx_isi_int); (first | assumption | rfl))
  | ((with_reducible apply Dn.bx_isi_tup); (first | assumption | rfl))
  | with_reducible refine Dn.bx_int_int ?_
  | with_reducible refine Dn.bx_int_bl ?_
  | with_reducible refine Dn.bx_II ?_
  | with_reducible refine Dn.bx_tuple_lst ?_
  | with_reducible refine Dn.bx_tuple_tup ?_
  | with_reducible refine Dn.bx_list_lst ?_
  | with_reducible refine Dn.bx_list_tup ?_
  | with_reducible refine Dn.bx_it_lst ?_
  | with_reducible refine Dn.bx_it_tup ?_
  | with_reducible refine Dn.bx_it_str ?_
  | with_reducible refine Dn.two_dT ?_
  | with_reducible refine Dn.two_not ?_
  | with_reducible refine Dn.two_T ?_
  | with_reducible refine Dn.two_F ?_
  | (with_reducible refine Ds.two_Tb (by decide) ?_)
  | (with_reducible refine Ds.two_Fb (by decide) ?_)
  | with_reducible refine Ds.fin_rt ?_
  | with_reducible refine Ds.fin_nx ?_
  | with_reducible refine Ds.turn_nx ?_
  | with_reducible refine Ds.turn_ct ?_
  | with_reducible refine Ds.turn_bk ?_
  | with_reducible refine Ds.turn_rt ?_
  | with_reducible refine Dn.flat_int ?_
  | with_reducible refine Dn.flat_str ?_
  | with_reducible refine Dn.flat_bl ?_
  | (refine ⟨_, rfl, Nat.le_of_ble_eq_true rfl, ?_⟩)
  | (refine ⟨Nat.le_of_ble_eq_true rfl, ?_⟩)
  | (refine ⟨_, rfl, ?_⟩))
namespace Ds.K06
open PySem PySem.Spec PyProof.Rows L2 Dn
def c_DEEPEST : D := (PyData.int 150)
def c_FIGURES : D := (PyData.str "0123456789")
def c_GREATEST : D := (PyData.int 9999)
def c_LETTERS : D := (PyData.str "abcdefghijklmnopqrstuvwxyz")
def c_LONGEST : D := (PyData.int 8)
def c_MOST_BOXES : D := (PyData.int 4)
def c_MOST_DEFS : D := (PyData.int 6)
def c_MOST_FIGURES : D := (PyData.int 4)
def c_MOST_ROWS : D := (PyData.int 4)
def c_TONGUE : D := (PyData.tuple [(PyData.str "take"), (PyData.str "ask"), (PyData.str "number"), (PyData.str "copy"), (PyData.str "mix"), (PyData.str "open"), (PyData.str "tell"), (PyData.str "wipe"), (PyData.str "clear"), (PyData.str "drop"), (PyData.str "choose"), (PyData.str "loop"), (PyData.str "out"), (PyData.str "risk"), (PyData.str "fault"), (PyData.str "call"), (PyData.str "back"), (PyData.str "def"), (PyData.str "main")])
def k_MANY_BOXES : List Str := ["ask", "copy", "mix", "open", "tell", "wipe"]
def v_MANY_BOXES : List (Str × D) := [("ask", (PyData.int 1)), ("copy", (PyData.int 2)), ("mix", (PyData.int 3)), ("open", (PyData.int 2)), ("tell", (PyData.int 1)), ("wipe", (PyData.int 1))]
def m_is_name : M Fl := (mSeq (mIfS (mOrT (mNotT (mTest (mIsi "str" (mVar 0)))) (mOrT (mNotT (mTest (mChain dLe dLe (mC (PyData.int 1)) (mCallB bLen [(mSh (mVar 0))]) (mC c_LONGEST)))) (mTest (mBin dIn (mVar 0) (mC c_TONGUE))))) (mRet (mSh (mC (PyData.bool false)))) mNx)
  (mRet (mSh (mCallB (bBools fun bs => bs.all id) [(mSh (mFr (mComp (mIter (mVar 0)) [1] (mgName 1) mYes (mBin dIn (mVar 1) (mC c_LETTERS)))))]))))
def f_is_name : Fn := fnF 1 2 m_is_name
def m_is_box : M Fl := (mSeq (mIfS (mNotT (mTest (mIsi "str" (mVar 0)))) (mRet (mSh (mC (PyData.bool false)))) mNx)
  (mSeq (mSet 1 (mSh (mM1 sSplit (mVar 0) (mC (PyData.str ".")))))
  (mRet (mSh (mAndV (mBin dLe (mCallB bLen [(mSh (mVar 1))]) (mC (PyData.int 2))) (mCallB (bBools fun bs => bs.all id) [(mSh (mFr (mComp (mIter (mVar 1)) [2] (mgName 2) mYes (mD (mCall f_is_name [(mSh (mVar 2))])))))]))))))
def f_is_box : Fn := fnF 1 3 m_is_box
def m_is_whole : M Fl := (mRet (mSh (mAndV (mIsi "int" (mVar 0)) (mAndV (mNotV (mIsi "bool" (mVar 0))) (mChain dLe dLe (mVar 1) (mVar 0) (mVar 2))))))
def f_is_whole : Fn := fnF 3 3 m_is_whole
def m_are_boxes : M Fl := (mSeq (mIfS (mOrT (mNotT (mTest (mIsi "tuple" (mVar 0)))) (mNotT (mTest (mCallB (bBools fun bs => bs.all id) [(mSh (mFr (mComp (mIter (mVar 0)) [1] (mgName 1) mYes (mD (mCall f_is_box [(mSh (mVar 1))])))))])))) (mRet (mSh (mC (PyData.bool false)))) mNx)
  (mRet (mSh (mBin dEq (mTexts (fun l => .int l.length) (mSh (mVar 0))) (mCallB bLen [(mSh (mVar 0))])))))
def f_are_boxes : Fn := fnF 1 2 m_are_boxes
def m_is_calling : M Fl := (mSeq (mIfS (mOrT (mTest (mBin dNe (mCallB bLen [(mSh (mVar 0))]) (mC (PyData.int 3)))) (mOrT (mNotT (mTest (mIsi "str" (mBin dIx (mVar 0) (mC (PyData.int 0)))))) (mTest (mDIn true (mBin dIx (mVar 0) (mC (PyData.int 0))) (mLV 1))))) (mRet (mSh (mC (PyData.bool false)))) mNx)
  (mSeq (mIfS (mOrT (mNotT (mTest (mD (mCall f_are_boxes [(mSh (mBin dIx (mVar 0) (mC (PyData.int 1))))])))) (mNotT (mTest (mD (mCall f_are_boxes [(mSh (mBin dIx (mVar 0) (mC (PyData.int 2))))]))))) (mRet (mSh (mC (PyData.bool false)))) mNx)
  (mRet (mSh (mBin dEq (mTup [(mSh (mCallB bLen [(mSh (mBin dIx (mVar 0) (mC (PyData.int 1))))])), (mSh (mCallB bLen [(mSh (mBin dIx (mVar 0) (mC (PyData.int 2))))]))]) (mD (mDGet (mLV 1) (mBin dIx (mVar 0) (mC (PyData.int 0))))))))))
def f_is_calling : Fn := fnF 2 2 m_is_calling
def m_is_plain : M Fl := (mSeq (mIfS (mTest (mKIn false k_MANY_BOXES (mVar 0))) (mRet (mSh (mAndV (mBin dEq (mCallB bLen [(mSh (mVar 1))]) (mKGet v_MANY_BOXES (mVar 0))) (mCallB (bBools fun bs => bs.all id) [(mSh (mFr (mComp (mIter (mVar 1)) [2] (mgName 2) mYes (mD (mCall f_is_box [(mSh (mVar 2))])))))])))) mNx)
  (mSeq (mIfS (mTest (mBin dEq (mVar 0) (mC (PyData.str "back")))) (mRet (mSh (mBin dEq (mVar 1) (mTup [])))) mNx)
  (mSeq (mIfS (mTest (mBin dEq (mVar 0) (mC (PyData.str "take")))) (mRet (mSh (mAndV (mBin dEq (mCallB bLen [(mSh (mVar 1))]) (mC (PyData.int 2))) (mAndV (mD (mCall f_is_box [(mSh (mBin dIx (mVar 1) (mC (PyData.int 0))))])) (mD (mCall f_is_name [(mSh (mBin dIx (mVar 1) (mC (PyData.int 1))))])))))) mNx)
  (mSeq (mIfS (mTest (mBin dEq (mVar 0) (mC (PyData.str "number")))) (mRet (mSh (mAndV (mBin dEq (mCallB bLen [(mSh (mVar 1))]) (mC (PyData.int 2))) (mAndV (mD (mCall f_is_box [(mSh (mBin dIx (mVar 1) (mC (PyData.int 0))))])) (mD (mCall f_is_whole [(mSh (mBin dIx (mVar 1) (mC (PyData.int 1)))), (mSh (mC (PyData.int 0))), (mSh (mC c_GREATEST))])))))) mNx)
  (mSeq (mIfS (mTest (mBin dIn (mVar 0) (mTup [(mSh (mC (PyData.str "clear"))), (mSh (mC (PyData.str "risk"))), (mSh (mC (PyData.str "fault")))]))) (mRet (mSh (mAndV (mBin dEq (mCallB bLen [(mSh (mVar 1))]) (mC (PyData.int 1))) (mD (mCall f_is_name [(mSh (mBin dIx (mVar 1) (mC (PyData.int 0))))]))))) mNx)
  (mRet (mSh (mAndV (mBin dEq (mVar 0) (mC (PyData.str "drop"))) (mAndV (mBin dEq (mCallB bLen [(mSh (mVar 1))]) (mC (PyData.int 1))) (mAndV (mD (mCall f_are_boxes [(mSh (mBin dIx (mVar 1) (mC (PyData.int 0))))])) (mBin dNe (mBin dIx (mVar 1) (mC (PyData.int 0))) (mTup []))))))))))))
def f_is_plain : Fn := fnF 2 3 m_is_plain
def m_is_word (r : Nat → Fn) : M Fl := (mSeq (mIfS (mOrT (mNotT (mTest (mIsi "tuple" (mVar 0)))) (mOrT (mTest (mBin dEq (mVar 0) (mTup []))) (mNotT (mTest (mIsi "str" (mBin dIx (mVar 0) (mC (PyData.int 0)))))))) (mRet (mSh (mC (PyData.bool false)))) mNx)
  (mSeq (mSet 3 (mSh (mBin dIx (mVar 0) (mC (PyData.int 0)))))
  (mSeq (mSet 4 (mSh (mSl (mVar 0) (mPart (mC (PyData.int 1))) mNoPart)))
  (mSeq (mIfS (mTest (mBin dEq (mVar 3) (mC (PyData.str "choose")))) (mSeq (mIfS (mOrT (mTest (mBin dNe (mCallB bLen [(mSh (mVar 4))]) (mC (PyData.int 1)))) (mOrT (mNotT (mTest (mIsi "tuple" (mBin dIx (mVar 4) (mC (PyData.int 0)))))) (mNotT (mTest (mChain dLe dLe (mC (PyData.int 1)) (mCallB bLen [(mSh (mBin dIx (mVar 4) (mC (PyData.int 0))))]) (mC c_MOST_ROWS)))))) (mRet (mSh (mC (PyData.bool false)))) mNx)
  (mRet (mSh (mCallB (bBools fun bs => bs.all id) [(mSh (mFr (mComp (mIter (mBin dIx (mVar 4) (mC (PyData.int 0)))) [5] (mgName 5) mYes (mD (mCall (r 1) [(mSh (mVar 5)), (mLo (mLV 1)), (mSh (mVar 2))])))))])))) mNx)
  (mSeq (mIfS (mTest (mBin dEq (mVar 3) (mC (PyData.str "loop")))) (mRet (mSh (mAndV (mBin dEq (mCallB bLen [(mSh (mVar 4))]) (mC (PyData.int 1))) (mD (mCall (r 1) [(mSh (mBin dIx (mVar 4) (mC (PyData.int 0)))), (mLo (mLV 1)), (mSh (mBin dAdd (mVar 2) (mC (PyData.int 1))))]))))) mNx)
  (mSeq (mIfS (mTest (mBin dEq (mVar 3) (mC (PyData.str "out")))) (mRet (mSh (mAndV (mBin dEq (mCallB bLen [(mSh (mVar 4))]) (mC (PyData.int 1))) (mD (mCall f_is_whole [(mSh (mBin dIx (mVar 4) (mC (PyData.int 0)))), (mSh (mC (PyData.int 1))), (mSh (mVar 2))]))))) mNx)
  (mSeq (mIfS (mTest (mBin dEq (mVar 3) (mC (PyData.str "call")))) (mRet (mSh (mD (mCall f_is_calling [(mSh (mVar 4)), (mLo (mLV 1))])))) mNx)
  (mRet (mSh (mD (mCall f_is_plain [(mSh (mVar 3)), (mSh (mVar 4))])))))))))))
def m_is_row (r : Nat → Fn) : M Fl := (mRet (mSh (mAndV (mIsi "tuple" (mVar 0)) (mCallB (bBools fun bs => bs.all id) [(mSh (mFr (mComp (mIter (mVar 0)) [3] (mgName 3) mYes (mD (mCall (r 0) [(mSh (mVar 3)), (mLo (mLV 1)), (mSh (mVar 2))])))))]))))
def f_G6 : Nat → Nat → Fn
  | 0, _ => fun _ _ => .bad
  | k + 1, 0 => fnF 3 6 (m_is_word (f_G6 k)) | k + 1, _ => fnF 3 4 (m_is_row (f_G6 k))
def f_is_row : Fn := f_G6 14 1
def m_is_def : M Fl := (mSeq (mIfS (mOrT (mNotT (mTest (mIsi "tuple" (mVar 0)))) (mOrT (mTest (mBin dNe (mCallB bLen [(mSh (mVar 0))]) (mC (PyData.int 4)))) (mOrT (mNotT (mTest (mD (mCall f_is_name [(mSh (mBin dIx (mVar 0) (mC (PyData.int 0))))])))) (mTest (mDIn false (mBin dIx (mVar 0) (mC (PyData.int 0))) (mLV 1)))))) (mRet (mSh (mC (PyData.bool false)))) mNx)
  (mSeq (mIfS (mOrT (mNotT (mTest (mD (mCall f_are_boxes [(mSh (mBin dIx (mVar 0) (mC (PyData.int 1))))])))) (mNotT (mTest (mD (mCall f_are_boxes [(mSh (mBin dIx (mVar 0) (mC (PyData.int 2))))]))))) (mRet (mSh (mC (PyData.bool false)))) mNx)
  (mRet (mSh (mAndV (mBin dLe (mCallB (bII fun i j => if j > i then j else i) [(mSh (mCallB bLen [(mSh (mBin dIx (mVar 0) (mC (PyData.int 1))))])), (mSh (mCallB bLen [(mSh (mBin dIx (mVar 0) (mC (PyData.int 2))))]))]) (mC c_MOST_BOXES)) (mD (mCall f_is_row [(mSh (mBin dIx (mVar 0) (mC (PyData.int 3)))), (mLo (mLV 1)), (mSh (mC (PyData.int 0)))])))))))
def f_is_def : Fn := fnF 2 2 m_is_def
def m_is_program : M Fl := (mSeq (mIfS (mOrT (mNotT (mTest (mIsi "tuple" (mVar 0)))) (mOrT (mTest (mBin dNe (mCallB bLen [(mSh (mVar 0))]) (mC (PyData.int 2)))) (mNotT (mTest (mIsi "tuple" (mBin dIx (mVar 0) (mC (PyData.int 0)))))))) (mRet (mSh (mC (PyData.bool false)))) mNx)
  (mSeq (mIfS (mTest (mBin dGt (mCallB bLen [(mSh (mBin dIx (mVar 0) (mC (PyData.int 0))))]) (mC c_MOST_DEFS))) (mRet (mSh (mC (PyData.bool false)))) mNx)
  (mSeq (mSet 1 (mLo mDNew))
  (mSeq (mFor (mIter (mBin dIx (mVar 0) (mC (PyData.int 0)))) (mgName 2) (mSeq (mIfS (mNotT (mTest (mD (mCall f_is_def [(mSh (mVar 2)), (mLo (mLV 1))])))) (mRet (mSh (mC (PyData.bool false)))) mNx)
  (mDPut (mLV 1) (mBin dIx (mVar 2) (mC (PyData.int 0))) (mSh (mTup [(mSh (mCallB bLen [(mSh (mBin dIx (mVar 2) (mC (PyData.int 1))))])), (mSh (mCallB bLen [(mSh (mBin dIx (mVar 2) (mC (PyData.int 2))))]))])))))
  (mRet (mSh (mD (mCall f_is_row [(mSh (mBin dIx (mVar 0) (mC (PyData.int 1)))), (mLo (mLV 1)), (mSh (mC (PyData.int 0)))]))))))))
def f_is_program : Fn := fnF 1 3 m_is_program
def m_show_boxes : M Fl := (mRet (mSh (mM1 sJoin (mC (PyData.str " ")) (mBin dAdd (mBin dAdd (mTup [(mSh (mC (PyData.str "(")))]) (mVar 0)) (mTup [(mSh (mC (PyData.str ")")))])))))
def f_show_boxes : Fn := fnF 1 1 m_show_boxes
def m_show_rows (r : Nat → Fn) : M Fl := (mSeq (mSet 1 (mLo (mNew (mLsO [(mSh (mC (PyData.str "{")))]))))
  (mSeq (mFor (mEnum (mVar 0)) (mgTup 2 (mgCons (mgName 2) (mgCons (mgName 3) mgNil))) (mSeq (mIfS (mTest (mBin dGt (mVar 2) (mC (PyData.int 0)))) (mApp (mLV 1) (mSh (mC (PyData.str "|")))) mNx)
  (mIfS (mTest (mBin dNe (mVar 3) (mTup []))) (mApp (mLV 1) (mSh (mD (mCall (r 2) [(mSh (mVar 3))])))) mNx)))
  (mRet (mSh (mM1 sJoin (mC (PyData.str " ")) (mFr (mCatO (mLo (mLV 1)) (mSh (mLst [(mSh (mC (PyData.str "}")))])))))))))
def m_show_word (r : Nat → Fn) : M Fl := (mSeq (mIfS (mTest (mBin dEq (mBin dIx (mVar 0) (mC (PyData.int 0))) (mC (PyData.str "choose")))) (mRet (mSh (mBin dAdd (mC (PyData.str "choose ")) (mD (mCall (r 0) [(mSh (mBin dIx (mVar 0) (mC (PyData.int 1))))]))))) mNx)
  (mSeq (mIfS (mTest (mBin dEq (mBin dIx (mVar 0) (mC (PyData.int 0))) (mC (PyData.str "loop")))) (mRet (mSh (mBin dAdd (mC (PyData.str "loop ")) (mD (mCall (r 0) [(mSh (mTup [(mSh (mBin dIx (mVar 0) (mC (PyData.int 1))))]))]))))) mNx)
  (mSeq (mIfS (mTest (mBin dEq (mBin dIx (mVar 0) (mC (PyData.int 0))) (mC (PyData.str "drop")))) (mRet (mSh (mBin dAdd (mC (PyData.str "drop ")) (mD (mCall f_show_boxes [(mSh (mBin dIx (mVar 0) (mC (PyData.int 1))))]))))) mNx)
  (mSeq (mIfS (mTest (mBin dEq (mBin dIx (mVar 0) (mC (PyData.int 0))) (mC (PyData.str "call")))) (mRet (mSh (mBin dAdd (mBin dAdd (mBin dAdd (mBin dAdd (mBin dAdd (mC (PyData.str "call ")) (mBin dIx (mVar 0) (mC (PyData.int 1)))) (mC (PyData.str " "))) (mD (mCall f_show_boxes [(mSh (mBin dIx (mVar 0) (mC (PyData.int 2))))]))) (mC (PyData.str " "))) (mD (mCall f_show_boxes [(mSh (mBin dIx (mVar 0) (mC (PyData.int 3))))]))))) mNx)
  (mRet (mSh (mM1 sJoin (mC (PyData.str " ")) (mFr (mComp (mIter (mVar 0)) [1] (mgName 1) mYes (mCallB bStr [(mSh (mVar 1))]))))))))))
def m_show_row (r : Nat → Fn) : M Fl := (mRet (mSh (mM1 sJoin (mC (PyData.str " ")) (mFr (mComp (mIter (mVar 0)) [1] (mgName 1) mYes (mD (mCall (r 1) [(mSh (mVar 1))])))))))
def f_G10 : Nat → Nat → Fn
  | 0, _ => fun _ _ => .bad
  | k + 1, 0 => fnF 1 4 (m_show_rows (f_G10 k)) | k + 1, 1 => fnF 1 2 (m_show_word (f_G10 k)) | k + 1, _ => fnF 1 2 (m_show_row (f_G10 k))
def f_show_rows : Fn := f_G10 20 0
def f_show_row : Fn := f_G10 20 2
def m_show_def : M Fl := (mSeq (mAsg (mgTup 4 (mgCons (mgName 1) (mgCons (mgName 2) (mgCons (mgName 3) (mgCons (mgName 4) mgNil))))) (mSh (mVar 0)))
  (mRet (mSh (mBin dAdd (mBin dAdd (mBin dAdd (mBin dAdd (mBin dAdd (mBin dAdd (mBin dAdd (mC (PyData.str "def ")) (mVar 1)) (mC (PyData.str " "))) (mD (mCall f_show_boxes [(mSh (mVar 2))]))) (mC (PyData.str " "))) (mD (mCall f_show_boxes [(mSh (mVar 3))]))) (mC (PyData.str " "))) (mD (mCall f_show_rows [(mSh (mTup [(mSh (mVar 4))]))]))))))
def f_show_def : Fn := fnF 1 5 m_show_def
def m_show_program : M Fl := (mSeq (mSet 1 (mSh (mFr (mComp (mIter (mBin dIx (mVar 0) (mC (PyData.int 0)))) [2] (mgName 2) mYes (mD (mCall f_show_def [(mSh (mVar 2))]))))))
  (mRet (mSh (mM1 sJoin (mC (PyData.str "\n")) (mBin dAdd (mVar 1) (mLst [(mSh (mBin dAdd (mC (PyData.str "main ")) (mD (mCall f_show_rows [(mSh (mTup [(mSh (mBin dIx (mVar 0) (mC (PyData.int 1))))]))]))))]))))))
def f_show_program : Fn := fnF 1 3 m_show_program
def m_Line___init__ : M Fl := (mSeq (mSetF "Line" (mLV 0) "groups" (mSh (mM1 sSplit (mVar 1) (mC (PyData.str " ")))))
  (mSeq (mSetF "Line" (mLV 0) "reached" (mSh (mC (PyData.int 0))))
  (mSetF "Line" (mLV 0) "braces" (mSh (mC (PyData.int 0))))))
def f_Line___init__ : Fn := fnF 2 2 m_Line___init__
def m_Line_group_ahead : M Fl := (mSeq (mIfS (mTest (mBin dEq (mD (mFld "Line" (mLV 0) "reached")) (mCallB bLen [(mSh (mD (mFld "Line" (mLV 0) "groups")))]))) (mRet (mSh (mC (PyData.str "")))) mNx)
  (mRet (mSh (mBin dIx (mD (mFld "Line" (mLV 0) "groups")) (mD (mFld "Line" (mLV 0) "reached"))))))
def f_Line_group_ahead : Fn := fnF 1 1 m_Line_group_ahead
def m_Line_pulled : M Fl := (mSeq (mSet 1 (mSh (mD (mMeth "Line" "group_ahead" f_Line_group_ahead (mLV 0) []))))
  (mSeq (mIfS (mTest (mBin dEq (mVar 1) (mC (PyData.str "")))) mBad mNx)
  (mSeq (mAugF "Line" (mLV 0) "reached" (fun i j => i + j) 1)
  (mRet (mSh (mVar 1))))))
def f_Line_pulled : Fn := fnF 1 2 m_Line_pulled
def m_Line_expect : M Fl := (mIfS (mTest (mBin dNe (mD (mMeth "Line" "pulled" f_Line_pulled (mLV 0) [])) (mVar 1))) mBad mNx)
def f_Line_expect : Fn := fnF 2 2 m_Line_expect
def m_Line_pulled_boxes : M Fl := (mSeq (mExpr (mSh (mD (mMeth "Line" "expect" f_Line_expect (mLV 0) [(mSh (mC (PyData.str "(")))]))))
  (mSeq (mSet 1 (mLo (mNew (mLsO []))))
  (mSeq (mWhile (mTest (mBin dNe (mD (mMeth "Line" "group_ahead" f_Line_group_ahead (mLV 0) [])) (mC (PyData.str ")")))) (mApp (mLV 1) (mSh (mD (mMeth "Line" "pulled" f_Line_pulled (mLV 0) [])))) 1000000)
  (mSeq (mExpr (mSh (mD (mMeth "Line" "expect" f_Line_expect (mLV 0) [(mSh (mC (PyData.str ")")))]))))
  (mRet (mSh (mTupOf (mLo (mLV 1)))))))))
def f_Line_pulled_boxes : Fn := fnF 1 2 m_Line_pulled_boxes
def m_Line_pulled_number : M Fl := (mSeq (mSet 1 (mSh (mD (mMeth "Line" "pulled" f_Line_pulled (mLV 0) []))))
  (mSeq (mIfS (mOrT (mTest (mBin dGt (mCallB bLen [(mSh (mVar 1))]) (mC c_MOST_FIGURES))) (mNotT (mTest (mCallB (bBools fun bs => bs.all id) [(mSh (mFr (mComp (mIter (mVar 1)) [2] (mgName 2) mYes (mBin dIn (mVar 2) (mC c_FIGURES)))))])))) mBad mNx)
  (mRet (mSh (mCallB bIntS [(mSh (mVar 1))])))))
def f_Line_pulled_number : Fn := fnF 1 3 m_Line_pulled_number
def m_Line_pulled_rows (r : Nat → Fn) : M Fl := (mSeq (mExpr (mSh (mD (mMeth "Line" "expect" f_Line_expect (mLV 0) [(mSh (mC (PyData.str "{")))]))))
  (mSeq (mAugF "Line" (mLV 0) "braces" (fun i j => i + j) 1)
  (mSeq (mIfS (mTest (mBin dGt (mD (mFld "Line" (mLV 0) "braces")) (mC c_DEEPEST))) mBad mNx)
  (mSeq (mSet 1 (mLo (mNew (mLsO [(mSh (mD (mMeth "Line" "pulled_row" (r 1) (mLV 0) [])))]))))
  (mSeq (mWhile (mTest (mBin dEq (mD (mMeth "Line" "group_ahead" f_Line_group_ahead (mLV 0) [])) (mC (PyData.str "|")))) (mSeq (mExpr (mSh (mD (mMeth "Line" "expect" f_Line_expect (mLV 0) [(mSh (mC (PyData.str "|")))]))))
  (mApp (mLV 1) (mSh (mD (mMeth "Line" "pulled_row" (r 1) (mLV 0) []))))) 1000000)
  (mSeq (mExpr (mSh (mD (mMeth "Line" "expect" f_Line_expect (mLV 0) [(mSh (mC (PyData.str "}")))]))))
  (mSeq (mAugF "Line" (mLV 0) "braces" (fun i j => i - j) 1)
  (mRet (mSh (mTupOf (mLo (mLV 1))))))))))))
def m_Line_pulled_row (r : Nat → Fn) : M Fl := (mSeq (mSet 1 (mLo (mNew (mLsO []))))
  (mSeq (mWhile (mTest (mBin dNotIn (mD (mMeth "Line" "group_ahead" f_Line_group_ahead (mLV 0) [])) (mTup [(mSh (mC (PyData.str "|"))), (mSh (mC (PyData.str "}"))), (mSh (mC (PyData.str "")))]))) (mApp (mLV 1) (mSh (mD (mMeth "Line" "pulled_word" (r 2) (mLV 0) [])))) 1000000)
  (mRet (mSh (mTupOf (mLo (mLV 1)))))))
def m_Line_pulled_word (r : Nat → Fn) : M Fl := (mSeq (mSet 1 (mSh (mD (mMeth "Line" "pulled" f_Line_pulled (mLV 0) []))))
  (mSeq (mIfS (mTest (mBin dEq (mVar 1) (mC (PyData.str "choose")))) (mRet (mSh (mTup [(mSh (mVar 1)), (mSh (mD (mMeth "Line" "pulled_rows" (r 0) (mLV 0) [])))]))) mNx)
  (mSeq (mIfS (mTest (mBin dEq (mVar 1) (mC (PyData.str "loop")))) (mRet (mSh (mBin dAdd (mTup [(mSh (mVar 1))]) (mD (mMeth "Line" "pulled_rows" (r 0) (mLV 0) []))))) mNx)
  (mSeq (mIfS (mTest (mBin dEq (mVar 1) (mC (PyData.str "drop")))) (mRet (mSh (mTup [(mSh (mVar 1)), (mSh (mD (mMeth "Line" "pulled_boxes" f_Line_pulled_boxes (mLV 0) [])))]))) mNx)
  (mSeq (mIfS (mTest (mBin dEq (mVar 1) (mC (PyData.str "call")))) (mRet (mSh (mTup [(mSh (mVar 1)), (mSh (mD (mMeth "Line" "pulled" f_Line_pulled (mLV 0) []))), (mSh (mD (mMeth "Line" "pulled_boxes" f_Line_pulled_boxes (mLV 0) []))), (mSh (mD (mMeth "Line" "pulled_boxes" f_Line_pulled_boxes (mLV 0) [])))]))) mNx)
  (mSeq (mIfS (mTest (mBin dEq (mVar 1) (mC (PyData.str "out")))) (mRet (mSh (mTup [(mSh (mVar 1)), (mSh (mD (mMeth "Line" "pulled_number" f_Line_pulled_number (mLV 0) [])))]))) mNx)
  (mSeq (mIfS (mTest (mBin dEq (mVar 1) (mC (PyData.str "number")))) (mRet (mSh (mTup [(mSh (mVar 1)), (mSh (mD (mMeth "Line" "pulled" f_Line_pulled (mLV 0) []))), (mSh (mD (mMeth "Line" "pulled_number" f_Line_pulled_number (mLV 0) [])))]))) mNx)
  (mSeq (mIfS (mTest (mBin dEq (mVar 1) (mC (PyData.str "take")))) (mRet (mSh (mTup [(mSh (mVar 1)), (mSh (mD (mMeth "Line" "pulled" f_Line_pulled (mLV 0) []))), (mSh (mD (mMeth "Line" "pulled" f_Line_pulled (mLV 0) [])))]))) mNx)
  (mSeq (mIfS (mTest (mBin dIn (mVar 1) (mTup [(mSh (mC (PyData.str "clear"))), (mSh (mC (PyData.str "risk"))), (mSh (mC (PyData.str "fault")))]))) (mRet (mSh (mTup [(mSh (mVar 1)), (mSh (mD (mMeth "Line" "pulled" f_Line_pulled (mLV 0) [])))]))) mNx)
  (mRet (mSh (mBin dAdd (mTup [(mSh (mVar 1))]) (mCallB bTuple [(mSh (mFr (mComp (mRng1 (mKGet2 v_MANY_BOXES (mVar 1) (mC (PyData.int 0)))) [2] (mgName 2) mYes (mD (mMeth "Line" "pulled" f_Line_pulled (mLV 0) [])))))])))))))))))))
def f_G19 : Nat → Nat → Fn
  | 0, _ => fun _ _ => .bad
  | k + 1, 0 => fnF 1 2 (m_Line_pulled_rows (f_G19 k)) | k + 1, 1 => fnF 1 2 (m_Line_pulled_row (f_G19 k)) | k + 1, _ => fnF 1 3 (m_Line_pulled_word (f_G19 k))
def f_Line_pulled_rows : Fn := f_G19 20 0
def m_Line_pulled_def : M Fl := (mSeq (mExpr (mSh (mD (mMeth "Line" "expect" f_Line_expect (mLV 0) [(mSh (mC (PyData.str "def")))]))))
  (mSeq (mSet 1 (mSh (mD (mMeth "Line" "pulled" f_Line_pulled (mLV 0) []))))
  (mSeq (mSet 2 (mSh (mD (mMeth "Line" "pulled_boxes" f_Line_pulled_boxes (mLV 0) []))))
  (mSeq (mSet 3 (mSh (mD (mMeth "Line" "pulled_boxes" f_Line_pulled_boxes (mLV 0) []))))
  (mSeq (mSet 4 (mSh (mD (mMeth "Line" "pulled_rows" f_Line_pulled_rows (mLV 0) []))))
  (mRet (mSh (mBin dAdd (mTup [(mSh (mVar 1)), (mSh (mVar 2)), (mSh (mVar 3))]) (mVar 4)))))))))
def f_Line_pulled_def : Fn := fnF 1 5 m_Line_pulled_def
def m_Line_pulled_main : M Fl := (mSeq (mExpr (mSh (mD (mMeth "Line" "expect" f_Line_expect (mLV 0) [(mSh (mC (PyData.str "main")))]))))
  (mRet (mSh (mD (mMeth "Line" "pulled_rows" f_Line_pulled_rows (mLV 0) [])))))
def f_Line_pulled_main : Fn := fnF 1 1 m_Line_pulled_main
def m_read_lines : M Fl := (mRet (mSh (mBin dAdd (mTup [(mSh (mCallB bTuple [(mSh (mFr (mComp (mIter (mSl (mVar 0) mNoPart (mPart (mNeg (mC (PyData.int 1)))))) [1] (mgName 1) mYes (mD (mMeth "Line" "pulled_def" f_Line_pulled_def (mMake "Line" f_Line___init__ [(mSh (mVar 1))]) [])))))]))]) (mD (mMeth "Line" "pulled_main" f_Line_pulled_main (mMake "Line" f_Line___init__ [(mSh (mBin dIx (mVar 0) (mNeg (mC (PyData.int 1)))))]) [])))))
def f_read_lines : Fn := fnF 1 2 m_read_lines
def m_read_program : M Fl := (mSeq (mIfS (mNotT (mTest (mIsi "str" (mVar 0)))) mBad mNx)
  (mSeq (mSet 1 (mSh (mD (mCall f_read_lines [(mSh (mM1 sSplit (mVar 0) (mC (PyData.str "\n"))))]))))
  (mSeq (mIfS (mOrT (mNotT (mTest (mD (mCall f_is_program [(mSh (mVar 1))])))) (mTest (mBin dNe (mD (mCall f_show_program [(mSh (mVar 1))])) (mVar 0)))) mBad mNx)
  (mRet (mSh (mVar 1))))))
def f_read_program : Fn := fnF 1 2 m_read_program
def m__law_deck : M Fl := (mSeq (mSet 2 (mSh (mC (PyData.int 0))))
  (mSeq (mIfS (mTest (mBin dLt (mVar 1) (mCallB bLen [(mSh (mVar 0))]))) (mSet 2 (mSh (mBin dIx (mVar 0) (mVar 1)))) mNx)
  (mRet (mLo (mNew (mLsO [(mSh (mBin dMul (mVar 2) (mCallB bInt [(mSh (mBin dGe (mVar 2) (mBin dPow (mC (PyData.int 10)) (mC (PyData.int 18)))))]))), (mSh (mBin dMod (mVar 2) (mC (PyData.int 2147483647)))), (mSh (mC (PyData.int 0)))]))))))
def f__law_deck : Fn := fnF 2 3 m__law_deck
def m__law_draw : M Fl := (mSeq (mIfS (mTest (mBin dGt (mD (mIxC (mLo (mLV 0)) (mC (PyData.int 0)))) (mC (PyData.int 0)))) (mSeq (mSet 3 (mSh (mBin dMod (mD (mIxC (mLo (mLV 0)) (mC (PyData.int 0)))) (mVar 1))))
  (mSeq (mSetIx (mLV 0) (mC (PyData.int 0)) (mSh (mBin dDiv (mD (mIxC (mLo (mLV 0)) (mC (PyData.int 0)))) (mVar 1))))
  (mRet (mSh (mVar 3))))) mNx)
  (mSeq (mSetIx (mLV 0) (mC (PyData.int 2)) (mSh (mBin dAdd (mD (mIxC (mLo (mLV 0)) (mC (PyData.int 2)))) (mC (PyData.int 1)))))
  (mSeq (mSet 2 (mSh (mBin dMod (mBin dMul (mBin dAdd (mBin dAdd (mD (mIxC (mLo (mLV 0)) (mC (PyData.int 1)))) (mBin dMul (mBin dMul (mC (PyData.int 7919)) (mD (mIxC (mLo (mLV 0)) (mC (PyData.int 2))))) (mD (mIxC (mLo (mLV 0)) (mC (PyData.int 2)))))) (mC (PyData.int 31))) (mC (PyData.int 48271))) (mC (PyData.int 2147483647)))))
  (mRet (mSh (mBin dMod (mBin dDiv (mBin dMod (mBin dMul (mVar 2) (mBin dAdd (mVar 2) (mC (PyData.int 69621)))) (mC (PyData.int 2147483629))) (mC (PyData.int 8))) (mVar 1)))))))
def f__law_draw : Fn := fnF 2 4 m__law_draw
def m__law_names : M Fl := (mSeq (mSet 2 (mSh (mC (PyData.str "abcdefghijklmnopqrstuvwxyz"))))
  (mSeq (mSet 3 (mLo (mNew (mComp (mRng1 (mBin dAdd (mC (PyData.int 1)) (mD (mCall f__law_draw [(mLo (mLV 0)), (mSh (mC (PyData.int 6)))])))) [8] (mgName 8) mYes (mBin dIx (mVar 2) (mD (mCall f__law_draw [(mLo (mLV 0)), (mSh (mC (PyData.int 26)))])))))))
  (mSeq (mSet 4 (mSh (mD (mCall f__law_draw [(mLo (mLV 0)), (mSh (mCallC bLen [(mLo (mLV 3))]))]))))
  (mSeq (mSet 5 (mSh (mD (mCall f__law_draw [(mLo (mLV 0)), (mSh (mC (PyData.int 26)))]))))
  (mSeq (mSet 6 (mSh (mD (mCall f__law_draw [(mLo (mLV 0)), (mSh (mC (PyData.int 2)))]))))
  (mSeq (mSet 7 (mLo (mNew (mLsO []))))
  (mSeq (mFor (mRng1 (mVar 1)) (mgName 8) (mSeq (mSetIx (mLV 3) (mVar 4) (mSh (mBin dIx (mVar 2) (mBin dMod (mBin dAdd (mVar 5) (mVar 8)) (mC (PyData.int 26))))))
  (mApp (mLV 7) (mSh (mBin dAdd (mBin dAdd (mC (PyData.str "q")) (mM1C sJoin (mC (PyData.str "")) (mLo (mLV 3)))) (mBin dMul (mC (PyData.str "z")) (mBin dMul (mBin dMod (mVar 8) (mC (PyData.int 2))) (mVar 6))))))))
  (mRet (mLo (mLV 7))))))))))
def f__law_names : Fn := fnF 2 9 m__law_names
def m__law_kit : M Fl := (mSeq (mSet 1 (mLo (mL (mCall f__law_names [(mLo (mLV 0)), (mSh (mC (PyData.int 20)))]))))
  (mSeq (mIfS (mTest (mBin dEq (mD (mCall f__law_draw [(mLo (mLV 0)), (mSh (mC (PyData.int 4)))])) (mC (PyData.int 1)))) (mSetIx (mLV 1) (mC (PyData.int 4)) (mSh (mBin dAdd (mD (mIxC (mLo (mLV 1)) (mC (PyData.int 0)))) (mC (PyData.str "y"))))) mNx)
  (mSeq (mSet 2 (mSh (mBin dAdd (mSlC (mLo (mLV 1)) mNoPart (mPart (mC (PyData.int 3)))) (mLst [(mSh (mBin dAdd (mBin dAdd (mD (mIxC (mLo (mLV 1)) (mC (PyData.int 0)))) (mC (PyData.str "."))) (mD (mIxC (mLo (mLV 1)) (mC (PyData.int 3)))))), (mSh (mBin dAdd (mBin dAdd (mD (mIxC (mLo (mLV 1)) (mC (PyData.int 4)))) (mC (PyData.str "."))) (mD (mIxC (mLo (mLV 1)) (mC (PyData.int 3)))))), (mSh (mBin dAdd (mBin dAdd (mD (mIxC (mLo (mLV 1)) (mC (PyData.int 4)))) (mC (PyData.str "."))) (mD (mIxC (mLo (mLV 1)) (mC (PyData.int 1))))))]))))
  (mSeq (mSet 3 (mSh (mBin dIx (mLst [(mSh (mSlC (mLo (mLV 1)) (mPart (mC (PyData.int 6))) (mPart (mC (PyData.int 10))))), (mSh (mLst [(mSh (mC (PyData.str "same"))), (mSh (mC (PyData.str "way"))), (mSh (mC (PyData.str "left"))), (mSh (mC (PyData.str "by")))]))]) (mD (mCall f__law_draw [(mLo (mLV 0)), (mSh (mC (PyData.int 2)))])))))
  (mSeq (mSet 4 (mLo (mDisp [((mC (PyData.str "deck")), (mLo (mLV 0))), ((mC (PyData.str "boxes")), (mSh (mVar 2))), ((mC (PyData.str "records")), (mSh (mLst [(mSh (mD (mIxC (mLo (mLV 1)) (mC (PyData.int 0))))), (mSh (mD (mIxC (mLo (mLV 1)) (mC (PyData.int 4))))), (mSh (mD (mIxC (mLo (mLV 1)) (mC (PyData.int 2)))))]))), ((mC (PyData.str "worths")), (mSh (mVar 3)))])))
  (mSeq (mUpd (mLV 4) (mDisp [((mC (PyData.str "called")), (mSh (mSlC (mLo (mLV 1)) (mPart (mC (PyData.int 10))) (mPart (mC (PyData.int 16)))))), ((mC (PyData.str "known")), (mLo (mNew (mLsO [])))), ((mC (PyData.str "left")), (mSh (mC (PyData.int 40))))]))
  (mRet (mLo (mLV 4)))))))))
def f__law_kit : Fn := fnF 1 5 m__law_kit
def m__law_some : M Fl := (mRet (mSh (mD (mIxC (mCl 1) (mD (mCall f__law_draw [(mLo (mL (mDGet (mLV 0) (mC (PyData.str "deck"))))), (mSh (mCallC bLen [(mCl 1)]))]))))))
def f__law_some : Fn := fnF 2 2 m__law_some
def m__law_unlike : M Fl := (mSeq (mSet 2 (mLo (mNew (mListOf (mSh (mD (mDGet (mLV 0) (mC (PyData.str "boxes")))))))))
  (mRet (mSh (mCallB bTuple [(mSh (mFr (mComp (mRng1 (mVar 1)) [3] (mgName 3) mYes (mD (mPopAt (mLV 2) (mD (mCall f__law_draw [(mLo (mL (mDGet (mLV 0) (mC (PyData.str "deck"))))), (mSh (mCallC bLen [(mLo (mLV 2))]))])))))))]))))
def f__law_unlike : Fn := fnF 2 4 m__law_unlike
def m__law_row (r : Nat → Fn) : M Fl := (mSeq (mSet 4 (mSh (mTup [])))
  (mSeq (mFor (mRng1 (mVar 2)) (mgName 5) (mIfS (mTest (mBin dGt (mD (mDGet (mLV 0) (mC (PyData.str "left")))) (mC (PyData.int 0)))) (mSeq (mDPut (mLV 0) (mC (PyData.str "left")) (mSh (mBin dSub (mD (mDGet (mLV 0) (mC (PyData.str "left")))) (mC (PyData.int 1)))))
  (mSet 4 (mSh (mBin dAdd (mVar 4) (mTup [(mSh (mD (mCall (r 1) [(mLo (mLV 0)), (mSh (mVar 1)), (mSh (mVar 3)), (mSh (mD (mCall f__law_draw [(mLo (mL (mDGet (mLV 0) (mC (PyData.str "deck"))))), (mSh (mC (PyData.int 20)))])))])))]))))) mNx))
  (mRet (mSh (mVar 4)))))
def m__law_word (r : Nat → Fn) : M Fl := (mSeq (mAsg (mgLst 3 (mgCons (mgName 4) (mgCons (mgName 5) (mgCons (mgName 6) mgNil)))) (mSh (mFr (mComp (mRng1 (mC (PyData.int 3))) [9] (mgName 9) mYes (mD (mCall f__law_some [(mLo (mLV 0)), (mSh (mD (mDGet (mLV 0) (mC (PyData.str "boxes")))))]))))))
  (mSeq (mIfS (mOrT (mTest (mBin dLt (mVar 3) (mC (PyData.int 4)))) (mAndT (mTest (mBin dGt (mVar 3) (mC (PyData.int 12)))) (mTest (mBin dGt (mVar 1) (mC (PyData.int 3)))))) (mRet (mSh (mIfE (mTest (mBin dLt (mVar 3) (mC (PyData.int 2)))) (mTup [(mSh (mC (PyData.str "take"))), (mSh (mVar 4)), (mSh (mD (mCall f__law_some [(mLo (mLV 0)), (mSh (mD (mDGet (mLV 0) (mC (PyData.str "worths")))))])))]) (mTup [(mSh (mC (PyData.str "ask"))), (mSh (mVar 4))])))) mNx)
  (mSeq (mIfS (mTest (mBin dLt (mVar 3) (mC (PyData.int 10)))) (mSeq (mSet 7 (mSh (mLst [(mSh (mTup [(mSh (mC (PyData.str "copy"))), (mSh (mVar 4)), (mSh (mVar 5))])), (mSh (mTup [(mSh (mC (PyData.str "mix"))), (mSh (mVar 4)), (mSh (mVar 5)), (mSh (mVar 6))])), (mSh (mTup [(mSh (mC (PyData.str "open"))), (mSh (mVar 4)), (mSh (mVar 5))])), (mSh (mTup [(mSh (mC (PyData.str "tell"))), (mSh (mVar 4))])), (mSh (mTup [(mSh (mC (PyData.str "wipe"))), (mSh (mVar 4))]))])))
  (mRet (mSh (mBin dIx (mBin dAdd (mVar 7) (mLst [(mSh (mTup [(mSh (mC (PyData.str "number"))), (mSh (mVar 4)), (mSh (mBin dIx (mLst [(mSh (mD (mCall f__law_draw [(mLo (mL (mDGet (mLV 0) (mC (PyData.str "deck"))))), (mSh (mC (PyData.int 10000)))]))), (mSh (mC (PyData.int 9999))), (mSh (mC (PyData.int 0)))]) (mD (mCall f__law_draw [(mLo (mL (mDGet (mLV 0) (mC (PyData.str "deck"))))), (mSh (mC (PyData.int 3)))]))))]))])) (mBin dSub (mVar 3) (mC (PyData.int 4))))))) mNx)
  (mSeq (mIfS (mTest (mBin dEq (mVar 3) (mC (PyData.int 10)))) (mRet (mSh (mTup [(mSh (mC (PyData.str "clear"))), (mSh (mD (mCall f__law_some [(mLo (mLV 0)), (mSh (mD (mDGet (mLV 0) (mC (PyData.str "records")))))])))]))) mNx)
  (mSeq (mIfS (mTest (mBin dEq (mVar 3) (mC (PyData.int 11)))) (mRet (mSh (mTup [(mSh (mC (PyData.str "drop"))), (mSh (mD (mCall f__law_unlike [(mLo (mLV 0)), (mSh (mBin dAdd (mC (PyData.int 1)) (mD (mCall f__law_draw [(mLo (mL (mDGet (mLV 0) (mC (PyData.str "deck"))))), (mSh (mC (PyData.int 3)))]))))])))]))) mNx)
  (mSeq (mIfS (mTest (mBin dEq (mVar 3) (mC (PyData.int 12)))) (mRet (mSh (mTup [(mSh (mC (PyData.str "risk"))), (mSh (mD (mCall f__law_some [(mLo (mLV 0)), (mSh (mD (mDGet (mLV 0) (mC (PyData.str "worths")))))])))]))) mNx)
  (mSeq (mIfS (mAndT (mTest (mBin dEq (mVar 3) (mC (PyData.int 13)))) (mTest (mBin dEq (mD (mCall f__law_draw [(mLo (mL (mDGet (mLV 0) (mC (PyData.str "deck"))))), (mSh (mC (PyData.int 3)))])) (mC (PyData.int 0))))) (mRet (mSh (mBin dIx (mLst [(mSh (mTup [(mSh (mC (PyData.str "fault"))), (mSh (mD (mCall f__law_some [(mLo (mLV 0)), (mSh (mD (mDGet (mLV 0) (mC (PyData.str "worths")))))])))])), (mSh (mTup [(mSh (mC (PyData.str "back")))]))]) (mD (mCall f__law_draw [(mLo (mL (mDGet (mLV 0) (mC (PyData.str "deck"))))), (mSh (mC (PyData.int 2)))]))))) mNx)
  (mSeq (mIfS (mAndT (mTest (mBin dEq (mVar 3) (mC (PyData.int 14)))) (mTest (mBin dGt (mVar 2) (mC (PyData.int 0))))) (mRet (mSh (mTup [(mSh (mC (PyData.str "out"))), (mSh (mBin dAdd (mC (PyData.int 1)) (mD (mCall f__law_draw [(mLo (mL (mDGet (mLV 0) (mC (PyData.str "deck"))))), (mSh (mVar 2))]))))]))) mNx)
  (mSeq (mIfS (mAndT (mTest (mBin dLt (mVar 3) (mC (PyData.int 18)))) (mTest (mBinC dNe (mLo (mL (mDGet (mLV 0) (mC (PyData.str "known"))))) (mSh (mLst []))))) (mSeq (mAsg (mgTup 3 (mgCons (mgName 10) (mgCons (mgName 11) (mgCons (mgName 12) mgNil)))) (mSh (mD (mCall f__law_some [(mLo (mLV 0)), (mLo (mL (mDGet (mLV 0) (mC (PyData.str "known")))))]))))
  (mRet (mSh (mTup [(mSh (mC (PyData.str "call"))), (mSh (mVar 10)), (mSh (mD (mCall f__law_unlike [(mLo (mLV 0)), (mSh (mVar 11))]))), (mSh (mD (mCall f__law_unlike [(mLo (mLV 0)), (mSh (mVar 12))])))])))) mNx)
  (mSeq (mIfS (mTest (mBin dEq (mVar 3) (mC (PyData.int 18)))) (mSeq (mSet 8 (mSh (mFr (mComp (mRng1 (mBin dAdd (mC (PyData.int 1)) (mD (mCall f__law_draw [(mLo (mL (mDGet (mLV 0) (mC (PyData.str "deck"))))), (mSh (mC (PyData.int 4)))])))) [9] (mgName 9) mYes (mD (mCall (r 0) [(mLo (mLV 0)), (mSh (mBin dAdd (mVar 1) (mC (PyData.int 1)))), (mSh (mD (mCall f__law_draw [(mLo (mL (mDGet (mLV 0) (mC (PyData.str "deck"))))), (mSh (mC (PyData.int 3)))]))), (mSh (mVar 2))]))))))
  (mRet (mSh (mTup [(mSh (mC (PyData.str "choose"))), (mSh (mCallB bTuple [(mSh (mVar 8))]))])))) mNx)
  (mRet (mSh (mTup [(mSh (mC (PyData.str "loop"))), (mSh (mD (mCall (r 0) [(mLo (mLV 0)), (mSh (mBin dAdd (mVar 1) (mC (PyData.int 1)))), (mSh (mBin dAdd (mC (PyData.int 1)) (mD (mCall f__law_draw [(mLo (mL (mDGet (mLV 0) (mC (PyData.str "deck"))))), (mSh (mC (PyData.int 3)))])))), (mSh (mBin dAdd (mVar 2) (mC (PyData.int 1))))])))])))))))))))))
def f_G30 : Nat → Nat → Fn
  | 0, _ => fun _ _ => .bad
  | k + 1, 0 => fnF 4 6 (m__law_row (f_G30 k)) | k + 1, _ => fnF 4 13 (m__law_word (f_G30 k))
def f__law_row : Fn := f_G30 14 0
def m__law_program : M Fl := (mSeq (mSet 2 (mLo (mNew (mLsO []))))
  (mSeq (mFor (mIter (mSl (mD (mDGet (mLV 0) (mC (PyData.str "called")))) mNoPart (mPart (mD (mCall f__law_draw [(mLo (mL (mDGet (mLV 0) (mC (PyData.str "deck"))))), (mSh (mBin dAdd (mVar 1) (mC (PyData.int 1))))]))))) (mgName 3) (mSeq (mSet 4 (mSh (mBin dAdd (mC (PyData.int 3)) (mBin dMul (mC (PyData.int 2)) (mCallB bInt [(mSh (mBin dEq (mD (mCall f__law_draw [(mLo (mL (mDGet (mLV 0) (mC (PyData.str "deck"))))), (mSh (mC (PyData.int 8)))])) (mC (PyData.int 5))))])))))
  (mSeq (mSet 5 (mSh (mD (mCall f__law_draw [(mLo (mL (mDGet (mLV 0) (mC (PyData.str "deck"))))), (mSh (mVar 4))]))))
  (mSeq (mSet 6 (mSh (mD (mCall f__law_draw [(mLo (mL (mDGet (mLV 0) (mC (PyData.str "deck"))))), (mSh (mVar 4))]))))
  (mSeq (mSet 7 (mSh (mD (mCall f__law_row [(mLo (mLV 0)), (mSh (mC (PyData.int 1))), (mSh (mBin dAdd (mC (PyData.int 1)) (mD (mCall f__law_draw [(mLo (mL (mDGet (mLV 0) (mC (PyData.str "deck"))))), (mSh (mC (PyData.int 4)))])))), (mSh (mC (PyData.int 0)))]))))
  (mSeq (mApp (mLV 2) (mSh (mTup [(mSh (mVar 3)), (mSh (mD (mCall f__law_unlike [(mLo (mLV 0)), (mSh (mVar 5))]))), (mSh (mD (mCall f__law_unlike [(mLo (mLV 0)), (mSh (mVar 6))]))), (mSh (mVar 7))])))
  (mApp (mL (mDGet (mLV 0) (mC (PyData.str "known")))) (mSh (mTup [(mSh (mVar 3)), (mSh (mVar 5)), (mSh (mVar 6))])))))))))
  (mSeq (mDPut (mLV 0) (mC (PyData.str "left")) (mSh (mCallB (bII fun i j => if j > i then j else i) [(mSh (mD (mDGet (mLV 0) (mC (PyData.str "left"))))), (mSh (mC (PyData.int 8)))])))
  (mRet (mSh (mTup [(mSh (mTupOf (mLo (mLV 2)))), (mSh (mD (mCall f__law_row [(mLo (mLV 0)), (mSh (mC (PyData.int 0))), (mSh (mBin dIx (mLst [(mSh (mC (PyData.int 2))), (mSh (mC (PyData.int 5))), (mSh (mC (PyData.int 8))), (mSh (mC (PyData.int 12)))]) (mD (mCall f__law_draw [(mLo (mL (mDGet (mLV 0) (mC (PyData.str "deck"))))), (mSh (mC (PyData.int 4)))])))), (mSh (mC (PyData.int 0)))])))]))))))
def f__law_program : Fn := fnF 2 8 m__law_program
def m__law_in_brackets : M Fl := (mRet (mSh (mBin dAdd (mBin dAdd (mC (PyData.str "( ")) (mM1 sJoin (mC (PyData.str "")) (mFr (mComp (mIter (mVar 0)) [1] (mgName 1) mYes (mBin dAdd (mVar 1) (mC (PyData.str " "))))))) (mC (PyData.str ")")))))
def f__law_in_brackets : Fn := fnF 1 2 m__law_in_brackets
def m__law_braced (r : Nat → Fn) : M Fl := (mSeq (mSet 1 (mSh (mFr (mComp (mIter (mVar 0)) [2] (mgName 2) mYes (mD (mCall (r 1) [(mSh (mVar 2))]))))))
  (mRet (mSh (mBin dAdd (mBin dAdd (mC (PyData.str "{ ")) (mM1 sJoin (mC (PyData.str "| ")) (mFr (mComp (mIter (mVar 1)) [3] (mgName 3) mYes (mBin dAdd (mVar 3) (mBin dMul (mC (PyData.str " ")) (mCallB bInt [(mSh (mBin dNe (mVar 3) (mC (PyData.str ""))))]))))))) (mC (PyData.str "}"))))))
def m__law_text (r : Nat → Fn) : M Fl := (mSeq (mSet 1 (mLo (mNew (mLsO []))))
  (mSeq (mFor (mIter (mVar 0)) (mgName 2) (mIfS (mTest (mBin dEq (mBin dIx (mVar 2) (mC (PyData.int 0))) (mC (PyData.str "choose")))) (mApp (mLV 1) (mSh (mBin dAdd (mC (PyData.str "choose ")) (mD (mCall (r 0) [(mSh (mBin dIx (mVar 2) (mC (PyData.int 1))))]))))) (mIfS (mTest (mBin dEq (mBin dIx (mVar 2) (mC (PyData.int 0))) (mC (PyData.str "loop")))) (mApp (mLV 1) (mSh (mBin dAdd (mC (PyData.str "loop ")) (mD (mCall (r 0) [(mSh (mTup [(mSh (mBin dIx (mVar 2) (mC (PyData.int 1))))]))]))))) (mIfS (mTest (mBin dEq (mBin dIx (mVar 2) (mC (PyData.int 0))) (mC (PyData.str "drop")))) (mApp (mLV 1) (mSh (mBin dAdd (mC (PyData.str "drop ")) (mD (mCall f__law_in_brackets [(mSh (mBin dIx (mVar 2) (mC (PyData.int 1))))]))))) (mIfS (mTest (mBin dEq (mBin dIx (mVar 2) (mC (PyData.int 0))) (mC (PyData.str "call")))) (mSeq (mSet 3 (mSh (mFr (mComp (mIter (mSl (mVar 2) (mPart (mC (PyData.int 2))) mNoPart)) [4] (mgName 4) mYes (mD (mCall f__law_in_brackets [(mSh (mVar 4))]))))))
  (mApp (mLV 1) (mSh (mM1 sJoin (mC (PyData.str " ")) (mBin dAdd (mLst [(mSh (mC (PyData.str "call"))), (mSh (mBin dIx (mVar 2) (mC (PyData.int 1))))]) (mVar 3)))))) (mApp (mLV 1) (mSh (mM1 sJoin (mC (PyData.str " ")) (mFr (mComp (mIter (mVar 2)) [5] (mgName 5) mYes (mCallB bStr [(mSh (mVar 5))])))))))))))
  (mRet (mSh (mM1C sJoin (mC (PyData.str " ")) (mLo (mLV 1)))))))
def f_G33 : Nat → Nat → Fn
  | 0, _ => fun _ _ => .bad
  | k + 1, 0 => fnF 1 4 (m__law_braced (f_G33 k)) | k + 1, _ => fnF 1 6 (m__law_text (f_G33 k))
def f__law_braced : Fn := f_G33 14 0
def f__law_text : Fn := f_G33 14 1
def m__law_plain (r : Nat → Fn) : M Fl := (mSeq (mIfS (mTest (mIsi "tuple" (mVar 0))) (mRet (mSh (mBin dEq (mFr (mComp (mIter (mVar 0)) [1] (mgName 1) (mNotT (mTest (mD (mCall (r 0) [(mSh (mVar 1))])))) (mVar 1))) (mLst [])))) mNx)
  (mRet (mSh (mAndV (mIsi2 "str" "int" (mVar 0)) (mNotV (mIsi "bool" (mVar 0)))))))
def f_G34 : Nat → Nat → Fn
  | 0, _ => fun _ _ => .bad
  | k + 1, _ => fnF 1 2 (m__law_plain (f_G34 k))
def f__law_plain : Fn := f_G34 20 0
def m__law_right : M Fl := (mSeq (mSet 1 (mLo (mNew (mLsO []))))
  (mSeq (mFor (mIter (mBin dIx (mVar 0) (mC (PyData.int 0)))) (mgTup 4 (mgCons (mgName 6) (mgCons (mgName 7) (mgCons (mgName 8) (mgCons (mgName 9) mgNil))))) (mSeq (mSet 10 (mSh (mLst [(mSh (mD (mCall f__law_in_brackets [(mSh (mVar 7))]))), (mSh (mD (mCall f__law_in_brackets [(mSh (mVar 8))])))])))
  (mApp (mLV 1) (mSh (mM1 sJoin (mC (PyData.str " ")) (mBin dAdd (mBin dAdd (mLst [(mSh (mC (PyData.str "def"))), (mSh (mVar 6))]) (mVar 10)) (mLst [(mSh (mD (mCall f__law_braced [(mSh (mTup [(mSh (mVar 9))]))])))])))))))
  (mSeq (mSet 2 (mSh (mM1 sJoin (mC (PyData.str "\n")) (mFr (mCatO (mLo (mLV 1)) (mSh (mLst [(mSh (mBin dAdd (mC (PyData.str "main ")) (mD (mCall f__law_braced [(mSh (mTup [(mSh (mBin dIx (mVar 0) (mC (PyData.int 1))))]))]))))])))))))
  (mSeq (mSet 3 (mSh (mBin dAdd (mFr (mComp (mIter (mBin dIx (mVar 0) (mC (PyData.int 0)))) [11] (mgName 11) mYes (mBin dIx (mVar 11) (mC (PyData.int 3))))) (mLst [(mSh (mBin dIx (mVar 0) (mC (PyData.int 1))))]))))
  (mSeq (mSet 4 (mSh (mFr (mComp (mIter (mVar 3)) [9] (mgName 9) (mTest (mBin dNe (mD (mCall f_show_row [(mSh (mVar 9))])) (mD (mCall f__law_text [(mSh (mVar 9))])))) (mVar 9)))))
  (mSeq (mIfS (mOrT (mTest (mBin dNe (mD (mCall f_show_program [(mSh (mVar 0))])) (mVar 2))) (mTest (mBin dNe (mVar 4) (mLst [])))) (mRet (mSh (mC (PyData.bool false)))) mNx)
  (mSeq (mSet 5 (mSh (mD (mCall f_read_program [(mSh (mVar 2))]))))
  (mRet (mSh (mAndV (mBin dEq (mVar 5) (mVar 0)) (mAndV (mD (mCall f__law_plain [(mSh (mVar 5))])) (mBin dEq (mD (mCall f_show_program [(mSh (mVar 5))])) (mVar 2)))))))))))))
def f__law_right : Fn := fnF 1 12 m__law_right
def m_law : M Fl := (mSeq (mFor (mRng1 (mCallB (bII fun i j => if j > i then j else i) [(mSh (mC (PyData.int 1))), (mSh (mCallB (bII fun i j => if j < i then j else i) [(mSh (mCallB bLen [(mSh (mVar 0))])), (mSh (mC (PyData.int 8)))]))])) (mgName 1) (mSeq (mSet 2 (mSh (mD (mCall f__law_program [(mLo (mL (mCall f__law_kit [(mLo (mL (mCall f__law_deck [(mSh (mVar 0)), (mSh (mVar 1))])))]))), (mSh (mC (PyData.int 6)))]))))
  (mIfS (mOrT (mNotT (mTest (mD (mCall f__law_right [(mSh (mVar 2))])))) (mNotT (mTest (mD (mCall f__law_right [(mSh (mTup [(mSh (mTup [])), (mSh (mSl (mBin dIx (mVar 2) (mC (PyData.int 1))) mNoPart (mPart (mC (PyData.int 0)))))]))]))))) (mRet (mSh (mC (PyData.bool false)))) mNx)))
  (mRet (mSh (mD (mCall f__law_right [(mSh (mTup [(mSh (mTup [])), (mSh (mTup [(mSh (mTup [(mSh (mC (PyData.str "loop"))), (mSh (mTup []))])), (mSh (mTup [(mSh (mC (PyData.str "choose"))), (mSh (mTup [(mSh (mTup [])), (mSh (mTup []))]))])), (mSh (mTup [(mSh (mC (PyData.str "choose"))), (mSh (mTup [(mSh (mTup []))]))]))]))]))])))))
def f_law : Fn := fnF 1 3 m_law
/-- the law is True at every script: said upon data -/
def Good : Prop := ∀ ns : List Int, ns.length ≤ 63 → ∃ s, f_law [.sh (.list (ns.map PyData.int))] [] = .ok (.sh (.bool true)) s
end Ds.K06
namespace Ds.K06
open PySem PySem.Spec PyProof.Rows L2 Dn TL
def strP (f : Str → Bool) : D → Bool
  | .str y => f y
  | _ => false
def letters : Str := "abcdefghijklmnopqrstuvwxyz"
def inLet (y : Str) : Bool := strIn y letters
def tongue : List Str := ["take", "ask", "number", "copy", "mix", "open", "tell", "wipe", "clear", "drop", "choose", "loop", "out", "risk", "fault", "call", "back", "def", "main"]
def lettersB (x : Str) : Bool := (tl x).all fun c => decide (c ∈ tl letters)
def nameB (x : Str) : Bool := decide (1 ≤ x.length ∧ x.length ≤ 8) && !tongue.contains x && lettersB x
def parts (x : Str) : List Str := Txt.split x "."
def boxB (x : Str) : Bool := decide ((parts x).length ≤ 2) && (parts x).all nameB
def boxesD : D → Bool
  | .tuple ds => ds.all (strP boxB) && (match toSs ds with
    | some ts => decide ts.Nodup
    | none => false)
  | _ => false
def wholeD (lo hi : Int) : D → Bool
  | .int i => decide (lo ≤ i ∧ i ≤ hi)
  | _ => false
abbrev Kn := List (Str × Nat × Nat)
def lenD : D → Nat
  | .tuple ds => ds.length
  | _ => 0
def callB (kn : Kn) : List D → Bool
  | [.str x, a, g] => (match kn.lookup x with
    | some (u, v) => boxesD a && (boxesD g && (decide (lenD a = u) && decide (lenD g = v)))
    | none => false)
  | _ => false
def many : List (Str × Nat) := [("ask", 1), ("copy", 2), ("mix", 3), ("open", 2), ("tell", 1), ("wipe", 1)]
def plainB (w : Str) (rest : List D) : Bool :=
  match many.lookup w with
  | some n => decide (rest.length = n) && rest.all (strP boxB)
  | none =>
    if w = "back" then rest.isEmpty
    else if w = "take" then (match rest with | [a, b] => strP boxB a && strP nameB b | _ => false)
    else if w = "number" then (match rest with | [a, b] => strP boxB a && wholeD 0 9999 b | _ => false)
    else if w = "clear" ∨ w = "risk" ∨ w = "fault" then (match rest with | [a] => strP nameB a | _ => false)
    else decide (w = "drop") && (match rest with | [a] => boxesD a && decide (lenD a ≠ 0) | _ => false)
def rowOf (W : D → Bool) : D → Bool
  | .tuple ds => ds.all W
  | _ => false
def wordOf (R : Int → D → Bool) (kn : Kn) (ar : Int) : D → Bool
  | .tuple (.str w :: rest) =>
    if w = "choose" then (match rest with | [.tuple rs] => decide (1 ≤ rs.length ∧ rs.length ≤ 4) && rs.all (R ar) | _ => false)
    else if w = "loop" then (match rest with | [r] => R (ar + 1) r | _ => false)
    else if w = "out" then (match rest with | [i] => wholeD 1 ar i | _ => false)
    else if w = "call" then callB kn rest
    else plainB w rest
  | _ => false
/-- words (0) and rows (1), by turns -/
def wrB : Nat → Nat → Kn → Int → D → Bool
  | 0, _, _, _, _ => false
  | n + 1, 0, kn, ar, d => wordOf (fun a => wrB n 1 kn a) kn ar d
  | n + 1, _ + 1, kn, ar, d => rowOf (wrB n 0 kn ar) d
def defB (kn : Kn) : D → Bool
  | .tuple [.str n, a, g, r] => nameB n && ((kn.lookup n).isNone && (boxesD a && (boxesD g && (decide (lenD a ≤ 4 ∧ lenD g ≤ 4) && wrB 14 1 kn 0 r))))
  | _ => false
def entry : D → Str × Nat × Nat
  | .tuple [.str n, a, g, _] => (n, lenD a, lenD g)
  | _ => ("", 0, 0)
def defsB : List D → Kn → Option Kn
  | [], kn => some kn
  | d :: ds, kn => if defB kn d then defsB ds (kn ++ [entry d]) else none
def progB : D → Bool
  | .tuple [.tuple ds, m] => decide (ds.length ≤ 6) && (match defsB ds [] with
    | some kn => wrB 14 1 kn 0 m
    | none => false)
  | _ => false
def isCh : D → Bool
  | .tuple [.str w, .tuple _] => decide (w = "choose")
  | _ => false
def okW : List D → Bool
  | [.str w, r] => (decide (w ≠ "loop") || !isCh r) && (decide (w ≠ "choose") || !isTup r)
  | _ => true
/-- data that may be asked, by turns -/
inductive Fine : Nat → D → Prop where
  | non {n : Nat} : Fine n .none
  | bl {n : Nat} {b : Bool} : Fine n (.bool b)
  | int {n : Nat} {i : Int} : Fine n (.int i)
  | str {n : Nat} {x : Str} : Ok 64 x → Fine n (.str x)
  | tup {n : Nat} {ds : List D} : ds.length ≤ 1000 → okW ds = true → (∀ d ∈ ds, Fine n d) → Fine (n + 1) (.tuple ds)
  | lst {n : Nat} {ds : List D} : ds.length ≤ 1000 → (∀ d ∈ ds, Fine n d) → Fine (n + 1) (.list ds)
  | chs {n : Nat} {ds : List D} : ds.length ≤ 1000 → okW ds = true → (∀ d ∈ ds, isCh d = false) → (∀ d ∈ ds, Fine n d) → Fine (n + 1) (.tuple [.str "choose", .tuple ds])
theorem ok_choose : Ok 64 "choose" := Ok.lit _ _ (by decide)
theorem Fine.sh {n : Nat} {d : D} (h : Fine n d) : Sh (2 * n) d := by
  induction h with
  | non => exact ⟨rfl, Nat.zero_le _⟩
  | bl => exact ⟨rfl, Nat.zero_le _⟩
  | int => exact Sh.int
  | str h => exact Sh.str h
  | @tup n ds _ _ h ih => exact (Sh.tup ih).mono (by omega)
  | @lst n ds _ h ih => exact (Sh.lst ih).mono (by omega)
  | @chs n ds _ _ _ h ih =>
    refine (Sh.tup (n := 2 * n + 1) fun d hd => ?_).mono (by omega)
    simp at hd
    rcases hd with rfl | rfl
    · exact Sh.str ok_choose
    · exact Sh.tup ih
theorem Fine.mono {n m : Nat} {d : D} (h : Fine n d) (k : n ≤ m) : Fine m d := by
  induction h generalizing m with
  | non => exact .non
  | bl => exact .bl
  | int => exact .int
  | str h => exact .str h
  | @tup n ds l w h ih =>
    obtain ⟨m, rfl⟩ : ∃ m', m = m' + 1 := ⟨m - 1, by omega⟩
    exact .tup l w fun d hd => ih d hd (by omega)
  | @lst n ds l h ih =>
    obtain ⟨m, rfl⟩ : ∃ m', m = m' + 1 := ⟨m - 1, by omega⟩
    exact .lst l fun d hd => ih d hd (by omega)
  | @chs n ds l w w2 h ih =>
    obtain ⟨m, rfl⟩ : ∃ m', m = m' + 1 := ⟨m - 1, by omega⟩
    exact .chs l w w2 fun d hd => ih d hd (by omega)
theorem Fine.nd {n : Nat} {d : D} (h : Fine n d) : noDict d = true := by cases h <;> rfl
/-- the parts of a tuple -/
theorem Fine.part {n : Nat} {ds : List D} (h : Fine n (.tuple ds)) : ds.length ≤ 1000 ∧ ∀ d ∈ ds, Fine n d := by
  cases h with
  | tup l _ h => exact ⟨l, fun d hd => (h d hd).mono (by omega)⟩
  | @chs n ds l w _ h =>
    refine ⟨by simp, fun d hd => ?_⟩
    simp at hd
    rcases hd with rfl | rfl
    · exact .str ok_choose
    · exact .tup l w h
theorem run_all {vs : List Nat} {g : MG Cl} {me : M D} {e : Ev} {s : St} {Q : List D → Ev → St → Prop} (ds : List D) (f : D → Bool)
    (hs : ∀ d ∈ ds, ∃ e1, g (.sh d) e = some e1 ∧ Run me e1 s fun y e3 s3 => y = .bool (f d) ∧ wipeE e3 vs = e ∧ s3 = s)
    (fin : Q ((ds.map f).map PyData.bool) e s) : Run (compL vs g mYes me ds) e s Q := by
  refine run_compF ds (fun _ => true) (fun d => .bool (f d)) (fun s' => s' = s) rfl (fun d hd s' hs' => ?_) fun s' hs' => ?_
  · subst hs'
    obtain ⟨e1, h1, h2⟩ := hs d hd
    refine ⟨e1, h1, run_yes ⟨rfl, fun _ => h2, fun z => nomatch z⟩⟩
  · subst hs'
    rw [List.filter_eq_self.mpr (by simp)]
    rw [List.map_map] at fin
    exact fin
theorem sgn_all {x : Str} : ((sgnD x).map (strP inLet)) = ((tl x).map fun c => decide (c ∈ tl letters)) := by
  unfold sgnD
  rw [List.map_map]
  rfl
theorem in_tongue {x : Str} {Q : D → Prop} (h : Q (.bool (tongue.contains x))) : ∃ c, dIn (.str x) c_TONGUE = some c ∧ Q c := by
  have e : c_TONGUE = .tuple (tongue.map PyData.str) := rfl
  rw [e]
  exact bx_in_tup rfl (flat_strs _) (by rw [inD_strs]; exact h)
end Ds.K06
namespace Ds.K06
open PySem PySem.Spec PyProof.Rows L2 Dn TL
theorem is_name_str {x : Str} {s : St} {Q : Cl → St → Prop} (hx : x.length ≤ sizeLine) (h : Q (.sh (.bool (nameB x))) s) : FRun f_is_name [.sh (.str x)] s Q := by
  refine frun_fn rfl ?_
  unfold m_is_name
  repeat walk_at "ds"
  have no : nameB x = false → Q (.sh (.bool false)) (trim s.length (.sh (.bool false)) s) := fun z => by rw [z] at h; rw [trim_len rfl]; exact h
  refine two_dec (fun h1 => ?_) (fun h1 => ?_)
  · repeat walk_at "ds"
    refine two_dec (fun h2 => ?_) (fun h2 => ?_)
    · repeat (first | with_reducible refine in_tongue ?_ | walk_at "ds")
      refine ⟨fun h3 => ?_, fun h3 => ?_⟩
      · repeat walk_at "ds"
        exact no (by unfold nameB; rw [h3]; simp)
      · repeat walk_at "ds"
        refine ⟨by rw [sgnD_len]; exact hx, run_all _ (strP inLet) (fun d hd => ⟨_, rfl, ?_⟩) ?_⟩
        · obtain ⟨c, hc, rfl⟩ := mem_sgnD hd
          repeat walk_at "ds"
          exact ⟨rfl, rfl, rfl⟩
        · repeat walk_at "ds"
          refine ⟨_, shL_map _, ?_⟩
          repeat walk_at "ds"
          rw [sgn_all]
          refine bx_bools ?_
          repeat walk_at "ds"
          have e : nameB x = (List.all ((tl x).map fun c => decide (c ∈ tl letters)) id) := by
            unfold nameB lettersB
            rw [h3, decide_eq_true (show 1 ≤ x.length ∧ x.length ≤ 8 from ⟨by omega, by omega⟩)]
            simp [List.all_map]
          rw [← e, trim_len rfl]
          exact h
    · repeat walk_at "ds"
      exact no (by unfold nameB; rw [decide_eq_false (fun z => h2 (by have := z.2; omega))]; rfl)
  · repeat walk_at "ds"
    exact no (by unfold nameB; rw [decide_eq_false (fun z => h1 (by have := z.1; omega))]; rfl)
theorem is_name_no {d : D} {s : St} {Q : Cl → St → Prop} (hd : isStr d = false) (hn : noDict d = true) (h : Q (.sh (.bool false)) s) : FRun f_is_name [.sh d] s Q := by
  refine frun_fn rfl ?_
  unfold m_is_name
  repeat walk_at "ds"
  rw [hd]
  repeat walk_at "ds"
  rw [trim_len rfl]
  exact h
theorem is_name_s {n : Nat} {d : D} {s : St} {Q : Cl → St → Prop} (hd : Fine n d) (h : Q (.sh (.bool (strP nameB d))) s) : FRun f_is_name [.sh d] s Q := by
  cases hd with
  | str hx => exact is_name_str hx.line h
  | _ => exact is_name_no rfl rfl h
theorem parts_ok {n : Nat} {x : Str} (h : Ok n x) : ∀ p ∈ parts x, Ok n p := fun p hp => h.split (b := 46) (by decide) p hp
theorem parts_len {x : Str} : (parts x).length ≤ x.length + 1 := split_count (y := ⟨#[46]⟩) (by decide) (sep_ok (by decide))
theorem bx_parts {x : Str} {Q : D → Prop} (hx : x.length ≤ 100000) (h : Q (.list ((parts x).map PyData.str))) : ∃ c, sSplit x [.str "."] = some c ∧ Q c := bx_split rfl (by unfold sizeLine; omega) h
theorem is_box_str {x : Str} {s : St} {Q : Cl → St → Prop} (hx : Ok 64 x) (h : Q (.sh (.bool (boxB x))) s) : FRun f_is_box [.sh (.str x)] s Q := by
  have hl := hx.1
  refine frun_fn rfl ?_
  unfold m_is_box
  repeat walk_at "ds"
  refine bx_parts (by omega) ?_
  repeat walk_at "ds"
  rw [List.length_map]
  have no : boxB x = false → Q (.sh (.bool false)) (trim s.length (.sh (.bool false)) s) := fun z => by rw [z] at h; rw [trim_len rfl]; exact h
  have pl := @parts_len x
  refine two_dec (fun h1 => ?_) (fun h1 => ?_)
  · repeat walk_at "ds"
    refine ⟨by rw [List.length_map]; exact line_of (by omega), run_all _ (strP nameB) (fun d hd => ⟨_, rfl, ?_⟩) ?_⟩
    · obtain ⟨p, hp, rfl⟩ := List.mem_map.mp hd
      repeat walk_at "ds"
      refine is_name_str ((parts_ok hx p hp).line) ?_
      repeat walk_at "ds"
      exact ⟨rfl, rfl, rfl⟩
    · repeat walk_at "ds"
      refine ⟨_, shL_map _, ?_⟩
      repeat walk_at "ds"
      rw [show (List.map PyData.str (parts x)).map (strP nameB) = (parts x).map nameB from by rw [List.map_map]; rfl]
      refine bx_bools ?_
      repeat walk_at "ds"
      have e : boxB x = List.all ((parts x).map nameB) id := by
        unfold boxB
        rw [decide_eq_true (by omega)]
        simp [List.all_map]
      rw [← e, trim_len rfl]
      exact h
  · repeat walk_at "ds"
    exact no (by unfold boxB; rw [decide_eq_false (by omega)]; rfl)
theorem is_box_no {d : D} {s : St} {Q : Cl → St → Prop} (hd : isStr d = false) (hn : noDict d = true) (h : Q (.sh (.bool false)) s) : FRun f_is_box [.sh d] s Q := by
  refine frun_fn rfl ?_
  unfold m_is_box
  repeat walk_at "ds"
  rw [hd]
  repeat walk_at "ds"
  rw [trim_len rfl]
  exact h
theorem is_box_s {n : Nat} {d : D} {s : St} {Q : Cl → St → Prop} (hd : Fine n d) (h : Q (.sh (.bool (strP boxB d))) s) : FRun f_is_box [.sh d] s Q := by
  cases hd with
  | str hx => exact is_box_str hx h
  | _ => exact is_box_no rfl rfl h
end Ds.K06
namespace Ds.K06
open PySem PySem.Spec PyProof.Rows L2 Dn TL
def knv (kn : Kn) : List (Key × Cl) := kn.map fun x => (.inr x.1, .sh (.tuple [.int x.2.1, .int x.2.2]))
theorem valC_kn (x : Str) : ∀ kn : Kn, valC (knv kn) (.inr x) = (kn.lookup x).map fun p => Cl.sh (.tuple [.int p.1, .int p.2])
  | [] => rfl
  | (y, u, v) :: kn => by
    have ih := valC_kn x kn
    unfold knv at ih ⊢
    rw [List.map_cons, List.lookup_cons]
    by_cases h : x = y
    · subst h
      simp [valC]
    · have h' : (x == y) = false := by simpa using h
      have h2 : ((Sum.inr y : Key) = Sum.inr x) ↔ False := by simp; exact fun z => h z.symm
      rw [h', ← ih]
      simp [valC, h2, Ne.symm h]
theorem eqv_nilT (ds : List D) : PyData.eqv (.tuple ds) (.tuple []) = ds.isEmpty := by cases ds <;> simp [PyData.eqv, PyData.eqvAll]
theorem bx_eq_nil {n : Nat} {ds : List D} {Q : D → Prop} (hf : Sh n (.tuple ds)) (hn : n ≤ 64) (h : Q (.bool ds.isEmpty)) : ∃ c, dEq (.tuple ds) (.tuple []) = some c ∧ Q c :=
  bx_eq (.inl rfl) (hf.ok hn) rfl (by rw [eqv_nilT]; exact h)
theorem bx_ne_nil {n : Nat} {ds : List D} {Q : D → Prop} (hf : Sh n (.tuple ds)) (hn : n ≤ 64) (h : Q (.bool (!ds.isEmpty))) : ∃ c, dNe (.tuple ds) (.tuple []) = some c ∧ Q c :=
  bx_ne (.inl rfl) (hf.ok hn) rfl (by rw [eqv_nilT]; exact h)
theorem eqv_two (a b c d : Int) : PyData.eqv (.tuple [.int a, .int b]) (.tuple [.int c, .int d]) = (decide (a = c) && decide (b = d)) := by
  by_cases h1 : a = c <;> by_cases h2 : b = d <;> simp [PyData.eqv, PyData.eqvAll, h1, h2]
theorem two_b {A B : Prop} {b : Bool} (h1 : b = true → A) (h2 : b = false → B) : (b = true → A) ∧ (b = false → B) := ⟨h1, h2⟩
theorem isTup_of {d : D} (h : isTup d = true) : ∃ ds, d = .tuple ds := by cases d <;> simp [isTup] at h; exact ⟨_, rfl⟩
theorem boxes_tup {d : D} (h : boxesD d = true) : ∃ ds, d = .tuple ds := by
  cases d <;> simp [boxesD] at h
  exact ⟨_, rfl⟩
theorem is_whole_s {n : Nat} {d : D} {s : St} {lo hi : Int} {Q : Cl → St → Prop} (hd : Fine n d) (h : Q (.sh (.bool (wholeD lo hi d))) s) : FRun f_is_whole [.sh d, .sh (.int lo), .sh (.int hi)] s Q := by
  have no : ∀ {d : D}, isInt d = false → noDict d = true → Q (.sh (.bool false)) s → FRun f_is_whole [.sh d, .sh (.int lo), .sh (.int hi)] s Q := fun {d} h1 h2 h => by
    refine frun_fn rfl ?_
    unfold m_is_whole
    repeat walk_at "ds"
    rw [h1]
    repeat walk_at "ds"
    rw [trim_len rfl]
    exact h
  cases hd with
  | @int _ i =>
    refine frun_fn rfl ?_
    unfold m_is_whole
    repeat walk_at "ds"
    refine two_dec (fun h1 => ?_) (fun h1 => ?_)
    · repeat walk_at "ds"
      rw [trim_len rfl]
      have e : wholeD lo hi (.int i) = decide (i ≤ hi) := by simp [wholeD, h1]
      rw [e] at h
      exact h
    · repeat walk_at "ds"
      rw [trim_len rfl]
      have e : wholeD lo hi (.int i) = false := by simp [wholeD, h1]
      rw [e] at h
      exact h
  | bl =>
    refine frun_fn rfl ?_
    unfold m_is_whole
    repeat walk_at "ds"
    rw [trim_len rfl]
    exact h
  | non => exact no rfl rfl h
  | str => exact no rfl rfl h
  | tup => exact no rfl rfl h
  | lst => exact no rfl rfl h
  | chs => exact no rfl rfl h
theorem toSs_all : ∀ {ds : List D}, ds.all (strP boxB) = true → ∃ ts : List Str, ds = ts.map PyData.str ∧ toSs ds = some ts
  | [], _ => ⟨[], rfl, rfl⟩
  | d :: ds, h => by
    rw [List.all_cons, Bool.and_eq_true] at h
    obtain ⟨ts, h1, h2⟩ := toSs_all h.2
    cases d <;> simp [strP] at h
    rename_i x
    exact ⟨x :: ts, by rw [h1]; rfl, by simp [toSs, h2, toS]⟩
theorem are_boxes_s {n : Nat} {d : D} {s : St} {Q : Cl → St → Prop} (hd : Fine n d) (h : Q (.sh (.bool (boxesD d))) s) : FRun f_are_boxes [.sh d] s Q := by
  by_cases ht : isTup d = true
  · obtain ⟨ds, rfl⟩ := isTup_of ht
    obtain ⟨hl, hp⟩ := hd.part
    refine frun_fn rfl ?_
    unfold m_are_boxes
    repeat walk_at "ds"
    refine ⟨line_of (by omega), run_all _ (strP boxB) (fun d hd => ⟨_, rfl, ?_⟩) ?_⟩
    · repeat walk_at "ds"
      refine is_box_s (hp d hd) ?_
      repeat walk_at "ds"
      exact ⟨rfl, rfl, rfl⟩
    repeat walk_at "ds"
    refine ⟨_, shL_map _, ?_⟩
    repeat walk_at "ds"
    refine bx_bools ?_
    repeat walk_at "ds"
    refine two_b (fun h1 => ?_) (fun h1 => ?_)
    · have h1 : ds.all (strP boxB) = true := by simpa [List.all_map] using h1
      obtain ⟨ts, rfl, h2⟩ := toSs_all h1
      repeat walk_at "ds"
      refine ⟨_, _, ts, rfl, rfl, h2, ?_, ?_⟩
      · rw [List.length_map] at hl
        have : 1002 < scanBound := by decide
        omega
      repeat walk_at "ds"
      rw [trim_len rfl]
      have e : boxesD (.tuple (ts.map PyData.str)) = decide (((metT ts).length : Int) = ((ts.map PyData.str).length : Int)) := by
        simp only [boxesD, h1, h2, Bool.true_and, List.length_map]
        by_cases hn : ts.Nodup
        · rw [metT_id hn]
          simp [hn]
        · have := metT_short hn
          rw [decide_eq_false (p := ((metT ts).length : Int) = _) (by omega)]
          simp [hn]
      rw [← e]
      exact h
    · have h1 : ds.all (strP boxB) = false := by simpa [List.all_map] using h1
      repeat walk_at "ds"
      rw [trim_len rfl]
      have e : boxesD (.tuple ds) = false := by simp only [boxesD, h1, Bool.false_and]
      rw [e] at h
      exact h
  · have ht : isTup d = false := by simpa using ht
    refine frun_fn rfl ?_
    unfold m_are_boxes
    repeat walk_at "ds"
    have := hd.nd
    repeat walk_at "ds"
    rw [ht]
    repeat walk_at "ds"
    rw [trim_len rfl]
    have e : boxesD d = false := by cases d <;> first | rfl | simp [isTup] at ht
    rw [e] at h
    exact h
theorem is_calling_s {n l : Nat} {kn : Kn} {rest : List D} {s : St} {Q : Cl → St → Prop} (hr : ∀ d ∈ rest, Fine n d) (hl : s[l]? = some (.dk (knv kn))) (h : Q (.sh (.bool (callB kn rest))) s) : FRun f_is_calling [.sh (.tuple rest), .lo l] s Q := by
  refine frun_fn rfl ?_
  unfold m_is_calling
  have no : callB kn rest = false → Q (.sh (.bool false)) (trim s.length (.sh (.bool false)) s) := fun z => by rw [z] at h; rw [trim_len rfl]; exact h
  repeat walk_at "ds"
  refine two_dec (fun h1 => ?_) (fun h1 => ?_)
  rotate_left
  · repeat walk_at "ds"
    exact no (by
      unfold callB
      split
      · simp at h1
      · rfl)
  have h1 : rest.length = 3 := by omega
  obtain ⟨x, a, g, rfl⟩ : ∃ x a g, rest = [x, a, g] := by
    match rest, h1 with
    | [x, a, g], _ => exact ⟨_, _, _, rfl⟩
  have fx := hr x (by simp)
  have fa := hr a (by simp)
  have fg := hr g (by simp)
  have ndx := fx.nd
  repeat walk_at "ds"
  try refine bx_ix_tup rfl ?_
  repeat walk_at "ds"
  cases x with
  | str x => 
    refine two_Tb rfl ?_
    repeat walk_at "ds"
    try refine bx_ix_tup rfl ?_
    repeat walk_at "ds"
    refine ⟨_, _, hl, rfl, ?_⟩
    rw [valC_kn]
    cases hk : kn.lookup x with
    | none =>
      refine ⟨true, rfl, two_T ?_⟩
      repeat walk_at "ds"
      exact no (by simp [callB, hk])
    | some p =>
      obtain ⟨u, v⟩ := p
      refine ⟨false, rfl, two_F ?_⟩
      repeat walk_at "ds"
      try refine bx_ix_tup rfl ?_
      repeat walk_at "ds"
      refine are_boxes_s fa ?_
      repeat walk_at "ds"
      cases ha : boxesD a with
      | false =>
        repeat walk_at "ds"
        exact no (by simp [callB, hk, ha])
      | true =>
        repeat walk_at "ds"
        try refine bx_ix_tup rfl ?_
        repeat walk_at "ds"
        refine are_boxes_s fg ?_
        repeat walk_at "ds"
        cases hg : boxesD g with
        | false =>
          repeat walk_at "ds"
          exact no (by simp [callB, hk, ha, hg])
        | true =>
          obtain ⟨as, rfl⟩ := boxes_tup ha
          obtain ⟨gs, rfl⟩ := boxes_tup hg
          repeat walk_at "ds"
          try refine bx_ix_tup rfl ?_
          repeat walk_at "ds"
          try refine bx_ix_tup rfl ?_
          repeat walk_at "ds"
          try refine bx_ix_tup rfl ?_
          repeat walk_at "ds"
          refine ⟨_, _, _, hl, rfl, by rw [valC_kn, hk]; rfl, ?_⟩
          repeat walk_at "ds"
          rw [trim_len rfl]
          show Q (.sh (.bool (PyData.eqv (.tuple [.int (as.length : Int), .int (gs.length : Int)]) (.tuple [.int (u : Int), .int (v : Int)])))) s
          rw [eqv_two]
          have e : callB kn [.str x, .tuple as, .tuple gs] = (decide ((as.length : Int) = (u : Int)) && decide ((gs.length : Int) = (v : Int))) := by
            have e1 : ∀ a b : Nat, decide ((a : Int) = (b : Int)) = decide (a = b) := fun a b => decide_eq_decide.mpr (by omega)
            rw [e1, e1]
            simp only [callB, hk, ha, hg, lenD, Bool.true_and]
            first | rfl | (congr)
          rw [← e]
          exact h
  | _ =>
    refine two_Fb rfl ?_
    repeat walk_at "ds"
    exact no rfl
end Ds.K06
namespace Ds.K06
open PySem PySem.Spec PyProof.Rows L2 Dn TL
theorem many_get (w : Str) : (∃ n : Nat, many.lookup w = some n ∧ k_MANY_BOXES.contains w = true ∧ lookS v_MANY_BOXES w = some (.int n)) ∨ (many.lookup w = none ∧ k_MANY_BOXES.contains w = false) := by
  by_cases h1 : w = "ask"
  · subst h1; exact .inl ⟨1, rfl, rfl, rfl⟩
  by_cases h2 : w = "copy"
  · subst h2; exact .inl ⟨2, rfl, rfl, rfl⟩
  by_cases h3 : w = "mix"
  · subst h3; exact .inl ⟨3, rfl, rfl, rfl⟩
  by_cases h4 : w = "open"
  · subst h4; exact .inl ⟨2, rfl, rfl, rfl⟩
  by_cases h5 : w = "tell"
  · subst h5; exact .inl ⟨1, rfl, rfl, rfl⟩
  by_cases h6 : w = "wipe"
  · subst h6; exact .inl ⟨1, rfl, rfl, rfl⟩
  refine .inr ⟨?_, ?_⟩
  · have e : ∀ y : Str, w ≠ y → (w == y) = false := fun y h => by simpa using h
    simp only [many, List.lookup_cons, e _ h1, e _ h2, e _ h3, e _ h4, e _ h5, e _ h6, List.lookup_nil]
  · simp [k_MANY_BOXES, h1, h2, h3, h4, h5, h6]
theorem cut1 {x : D} {rest : List D} : Dn.cutD (x :: rest) (some 1) none = rest := by
  unfold Dn.cutD
  rw [HT.sIx_none, show (some 1 : Option Int) = some ((1 : Nat) : Int) from rfl, HT.sIx_nat, Nat.min_eq_left (by simp)]
  simp
theorem in_three (w : Str) : inD (.str w) [.str "clear", .str "risk", .str "fault"] = decide (w = "clear" ∨ w = "risk" ∨ w = "fault") := by
  have := inD_strs w ["clear", "risk", "fault"]
  refine this.trans ?_
  simp
theorem two_of {A B : Prop} {b b' : Bool} (e : b = b') (h : (b' = true → A) ∧ (b' = false → B)) : (b = true → A) ∧ (b = false → B) := by
  subst e
  exact h
theorem atI_zero {α : Type} {a : α} {l : List α} : atI (a :: l) 0 = some a := by
  have h : (0 : Int) < ((a :: l).length : Nat) := by rw [List.length_cons]; omega
  unfold atI ixN
  rw [if_pos (by omega), if_pos h]
  rfl
/-- the parts of a word -/
theorem Fine.word {n : Nat} {w : Str} {rest : List D} (h : Fine n (.tuple (.str w :: rest))) : rest.length ≤ 1000 ∧ (∀ d ∈ rest, Fine n d) ∧ ∃ n', n = n' + 1 ∧ (w ≠ "choose" → ∀ d ∈ rest, Fine n' d) ∧ (∀ rs, w = "choose" → rest = [.tuple rs] → rs.length ≤ 1000 ∧ ∀ r ∈ rs, isCh r = false ∧ Fine n' r) ∧ (∀ r, w = "loop" → rest = [r] → isCh r = false) := by
  obtain ⟨h1, h2⟩ := h.part
  refine ⟨by simp at h1; omega, fun d hd => h2 d (List.mem_cons_of_mem _ hd), ?_⟩
  generalize hx : PyData.tuple (.str w :: rest) = t at h
  cases h with
  | @tup n ds l k h =>
    cases hx
    refine ⟨n, rfl, fun _ d hd => h d (List.mem_cons_of_mem _ hd), fun rs e1 e => ?_, fun r e1 e => ?_⟩
    · subst e1 e
      exact absurd k (by simp [okW, isTup])
    · subst e1 e
      simp [okW] at k
      exact k.1
  | @chs n ds l k k2 h =>
    cases hx
    refine ⟨n, rfl, fun z => absurd rfl z, fun rs _ e => ?_, fun r e => absurd e (by decide)⟩
    cases e
    exact ⟨l, fun r hr => ⟨k2 r hr, h r hr⟩⟩
  | _ => cases hx
theorem is_plain_s {n : Nat} {w : Str} {rest : List D} {s : St} {Q : Cl → St → Prop} (hl : rest.length ≤ 1000) (hr : ∀ d ∈ rest, Fine n d) (hn : n ≤ 30) (h : Q (.sh (.bool (plainB w rest))) s) : FRun f_is_plain [.sh (.str w), .sh (.tuple rest)] s Q := by
  refine frun_fn rfl ?_
  unfold m_is_plain
  have no : plainB w rest = false → Q (.sh (.bool false)) (trim s.length (.sh (.bool false)) s) := fun z => by rw [z] at h; rw [trim_len rfl]; exact h
  have fin : ∀ b : Bool, plainB w rest = b → Q (.sh (.bool b)) (trim s.length (.sh (.bool b)) s) := fun b z => by rw [z] at h; rw [trim_len rfl]; exact h
  repeat walk_at "ds"
  rcases many_get w with ⟨k, m1, m2, m3⟩ | ⟨m1, m2⟩
  · rw [m2]
    repeat walk_at "ds"
    refine ⟨_, _, rfl, m3, ?_⟩
    repeat walk_at "ds"
    refine two_dec (fun h1 => ?_) (fun h1 => ?_)
    · repeat walk_at "ds"
      refine ⟨line_of (by omega), run_all _ (strP boxB) (fun d hd => ⟨_, rfl, ?_⟩) ?_⟩
      · repeat walk_at "ds"
        refine is_box_s (hr d hd) ?_
        repeat walk_at "ds"
        exact ⟨rfl, rfl, rfl⟩
      repeat walk_at "ds"
      refine ⟨_, shL_map _, ?_⟩
      repeat walk_at "ds"
      refine bx_bools ?_
      repeat walk_at "ds"
      exact fin _ (by
        unfold plainB
        rw [m1]
        have : rest.length = k := by omega
        simp [this, List.all_map])
    · repeat walk_at "ds"
      exact no (by
        unfold plainB
        rw [m1]
        have : ¬ rest.length = k := by omega
        simp [this])
  rw [m2]
  repeat walk_at "ds"
  refine two_dec (fun h1 => ?_) (fun h1 => ?_)
  · subst h1
    repeat walk_at "ds"
    refine bx_eq_nil (Sh.tup fun d hd => (hr d hd).sh) (by omega) ?_
    repeat walk_at "ds"
    exact fin _ (by unfold plainB; rw [m1]; simp)
  repeat walk_at "ds"
  refine two_dec (fun h2 => ?_) (fun h2 => ?_)
  · subst h2
    repeat walk_at "ds"
    refine two_dec (fun h3 => ?_) (fun h3 => ?_)
    · obtain ⟨a, b, rfl⟩ : ∃ a b, rest = [a, b] := by
        match rest, (show rest.length = 2 by omega) with
        | [a, b], _ => exact ⟨_, _, rfl⟩
      repeat walk_at "ds"
      try refine bx_ix_tup rfl ?_
      repeat walk_at "ds"
      refine is_box_s (hr a (by simp)) ?_
      repeat walk_at "ds"
      refine two_b (fun h4 => ?_) (fun h4 => ?_)
      · repeat walk_at "ds"
        try refine bx_ix_tup rfl ?_
        repeat walk_at "ds"
        refine is_name_s (hr b (by simp)) ?_
        repeat walk_at "ds"
        exact fin _ (by unfold plainB; rw [m1]; simp [h1, h4])
      · repeat walk_at "ds"
        exact no (by unfold plainB; rw [m1]; simp [h1, h4])
    · repeat walk_at "ds"
      exact no (by
        unfold plainB
        rw [m1]
        simp only [if_neg h1, if_true]
        split
        · simp at h3
        · rfl)
  repeat walk_at "ds"
  refine two_dec (fun h3 => ?_) (fun h3 => ?_)
  · subst h3
    repeat walk_at "ds"
    refine two_dec (fun h3 => ?_) (fun h3 => ?_)
    · obtain ⟨a, b, rfl⟩ : ∃ a b, rest = [a, b] := by
        match rest, (show rest.length = 2 by omega) with
        | [a, b], _ => exact ⟨_, _, rfl⟩
      repeat walk_at "ds"
      try refine bx_ix_tup rfl ?_
      repeat walk_at "ds"
      refine is_box_s (hr a (by simp)) ?_
      repeat walk_at "ds"
      refine two_b (fun h4 => ?_) (fun h4 => ?_)
      · repeat walk_at "ds"
        try refine bx_ix_tup rfl ?_
        repeat walk_at "ds"
        refine is_whole_s (hr b (by simp)) ?_
        repeat walk_at "ds"
        exact fin _ (by unfold plainB; rw [m1]; simp [h1, h2, h4])
      · repeat walk_at "ds"
        exact no (by unfold plainB; rw [m1]; simp [h1, h2, h4])
    · repeat walk_at "ds"
      exact no (by
        unfold plainB
        rw [m1]
        simp only [if_neg h1, if_neg h2, if_true]
        split
        · simp at h3
        · rfl)
  repeat walk_at "ds"
  refine two_of (in_three w) ?_
  refine two_dec (fun h4 => ?_) (fun h4 => ?_)
  · repeat walk_at "ds"
    refine two_dec (fun h5 => ?_) (fun h5 => ?_)
    · obtain ⟨a, rfl⟩ : ∃ a, rest = [a] := by
        match rest, (show rest.length = 1 by omega) with
        | [a], _ => exact ⟨_, rfl⟩
      repeat walk_at "ds"
      try refine bx_ix_tup rfl ?_
      repeat walk_at "ds"
      refine is_name_s (hr a (by simp)) ?_
      repeat walk_at "ds"
      exact fin _ (by unfold plainB; rw [m1]; simp only [if_neg h1, if_neg h2, if_neg h3, if_pos h4])
    · repeat walk_at "ds"
      exact no (by
        unfold plainB
        rw [m1]
        simp only [if_neg h1, if_neg h2, if_neg h3, if_pos h4]
        split
        · simp at h5
        · rfl)
  repeat walk_at "ds"
  refine two_dec (fun h5 => ?_) (fun h5 => ?_)
  · repeat walk_at "ds"
    refine two_dec (fun h6 => ?_) (fun h6 => ?_)
    · obtain ⟨a, rfl⟩ : ∃ a, rest = [a] := by
        match rest, (show rest.length = 1 by omega) with
        | [a], _ => exact ⟨_, rfl⟩
      repeat walk_at "ds"
      try refine bx_ix_tup rfl ?_
      repeat walk_at "ds"
      refine are_boxes_s (hr a (by simp)) ?_
      repeat walk_at "ds"
      refine two_b (fun h7 => ?_) (fun h7 => ?_)
      · obtain ⟨ds, rfl⟩ := boxes_tup h7
        repeat walk_at "ds"
        try refine bx_ix_tup rfl ?_
        repeat walk_at "ds"
        refine bx_ne_nil (hr _ (by simp)).sh (by omega) ?_
        repeat walk_at "ds"
        exact fin _ (by
          unfold plainB
          rw [m1]
          simp only [if_neg h1, if_neg h2, if_neg h3, if_neg h4]
          cases ds <;> simp [h5, h7, lenD])
      · repeat walk_at "ds"
        exact no (by
          unfold plainB
          rw [m1]
          simp only [if_neg h1, if_neg h2, if_neg h3, if_neg h4]
          simp [h7])
    · repeat walk_at "ds"
      exact no (by
        unfold plainB
        rw [m1]
        simp only [if_neg h1, if_neg h2, if_neg h3, if_neg h4]
        split
        · simp at h6
        · simp)
  · repeat walk_at "ds"
    exact no (by
      unfold plainB
      rw [m1]
      simp only [if_neg h1, if_neg h2, if_neg h3, if_neg h4]
      simp [h5])
def WS (F : Fn) (k i : Nat) : Prop := ∀ {n l : Nat} {d : D} {kn : Kn} {ar : Int} {s : St} {Q : Cl → St → Prop}, Fine n d → (i = 1 → isCh d = false) → n < k → s[l]? = some (.dk (knv kn)) → Q (.sh (.bool (wrB k i kn ar d))) s → FRun F [.sh d, .lo l, .sh (.int ar)] s Q
theorem word_s {r : Nat → Fn} {k : Nat} (hk : k ≤ 29) (H : WS (r 1) k 1) : WS (fnF 3 6 (m_is_word r)) (k + 1) 0 := by
  intro n l d kn ar s Q hf hc hn hl h
  have h : Q (.sh (.bool (wordOf (fun a => wrB k 1 kn a) kn ar d))) s := h
  refine frun_fn rfl ?_
  unfold m_is_word
  have no : wordOf (fun a => wrB k 1 kn a) kn ar d = false → Q (.sh (.bool false)) (trim s.length (.sh (.bool false)) s) := fun z => by rw [z] at h; rw [trim_len rfl]; exact h
  have fin : ∀ b : Bool, wordOf (fun a => wrB k 1 kn a) kn ar d = b → Q (.sh (.bool b)) (trim s.length (.sh (.bool b)) s) := fun b z => by rw [z] at h; rw [trim_len rfl]; exact h
  have nd := hf.nd
  by_cases ht : isTup d = true
  case neg =>
    have ht : isTup d = false := by simpa using ht
    repeat walk_at "ds"
    rw [ht]
    repeat walk_at "ds"
    exact no (by cases d <;> first | rfl | simp [isTup] at ht)
  obtain ⟨ds, rfl⟩ := isTup_of ht
  repeat walk_at "ds"
  refine bx_eq_nil hf.sh (by omega) ?_
  cases ds with
  | nil =>
    refine ⟨true, rfl, two_T ?_⟩
    repeat walk_at "ds"
    exact no rfl
  | cons x rest =>
    have fx := hf.part.2 x (by simp)
    have ndx := fx.nd
    refine ⟨false, rfl, two_F ?_⟩
    repeat walk_at "ds"
    refine bx_ix_tup atI_zero ?_
    repeat walk_at "ds"
    by_cases hx : isStr x = true
    case neg =>
      have hx : isStr x = false := by simpa using hx
      rw [hx]
      repeat walk_at "ds"
      exact no (by cases x <;> first | rfl | simp [isStr] at hx)
    obtain ⟨w, rfl⟩ : ∃ w, x = .str w := by cases x <;> simp [isStr] at hx; exact ⟨_, rfl⟩
    obtain ⟨hrl, hr, n', rfl, f1, f2, f3⟩ := hf.word
    refine two_Tb rfl ?_
    repeat walk_at "ds"
    refine bx_ix_tup atI_zero ?_
    repeat walk_at "ds"
    rw [cut1]
    refine two_dec (fun h1 => ?_) (fun h1 => ?_)
    · subst h1
      repeat walk_at "ds"
      refine two_dec (fun h2 => ?_) (fun h2 => ?_)
      rotate_left
      · repeat walk_at "ds"
        exact no (by
          unfold wordOf
          simp only [if_true]
          split
          · simp at h2
          · rfl)
      obtain ⟨a, rfl⟩ : ∃ a, rest = [a] := by
        match rest, (show rest.length = 1 by omega) with
        | [a], _ => exact ⟨_, rfl⟩
      have nda := (hr a (by simp)).nd
      repeat walk_at "ds"
      try refine bx_ix_tup rfl ?_
      repeat walk_at "ds"
      by_cases ha : isTup a = true
      case neg =>
        have ha : isTup a = false := by simpa using ha
        rw [ha]
        repeat walk_at "ds"
        exact no (by cases a <;> first | rfl | simp [isTup] at ha)
      obtain ⟨rs, rfl⟩ := isTup_of ha
      obtain ⟨g1, g2⟩ := f2 rs rfl rfl
      repeat walk_at "ds"
      try refine bx_ix_tup rfl ?_
      repeat walk_at "ds"
      have bad : ¬ (1 ≤ rs.length ∧ rs.length ≤ 4) → wordOf (fun a => wrB k 1 kn a) kn ar (.tuple [.str "choose", .tuple rs]) = false := fun z => by
        unfold wordOf
        simp [z]
      refine two_dec (fun h3 => ?_) (fun h3 => ?_)
      · repeat walk_at "ds"
        refine two_dec (fun h4 => ?_) (fun h4 => ?_)
        · repeat walk_at "ds"
          try refine bx_ix_tup rfl ?_
          repeat walk_at "ds"
          refine ⟨line_of (by omega), run_all _ (wrB k 1 kn ar) (fun d hd => ⟨_, rfl, ?_⟩) ?_⟩
          · repeat walk_at "ds"
            refine H (g2 d hd).2 (fun _ => (g2 d hd).1) (by omega) hl ?_
            repeat walk_at "ds"
            exact ⟨rfl, rfl, rfl⟩
          repeat walk_at "ds"
          refine ⟨_, shL_map _, ?_⟩
          repeat walk_at "ds"
          refine bx_bools ?_
          repeat walk_at "ds"
          exact fin _ (by
            unfold wordOf
            have : 1 ≤ rs.length ∧ rs.length ≤ 4 := ⟨by omega, by omega⟩
            simp [this, List.all_map])
        · repeat walk_at "ds"
          exact no (bad (by omega))
      · repeat walk_at "ds"
        exact no (bad (by omega))
    have g1 := f1 h1
    repeat walk_at "ds"
    refine two_dec (fun h2 => ?_) (fun h2 => ?_)
    · subst h2
      repeat walk_at "ds"
      refine two_dec (fun h3 => ?_) (fun h3 => ?_)
      · obtain ⟨a, rfl⟩ : ∃ a, rest = [a] := by
          match rest, (show rest.length = 1 by omega) with
          | [a], _ => exact ⟨_, rfl⟩
        repeat walk_at "ds"
        try refine bx_ix_tup rfl ?_
        repeat walk_at "ds"
        refine H (g1 a (by simp)) (fun _ => f3 a rfl rfl) (by omega) hl ?_
        repeat walk_at "ds"
        exact fin _ (by unfold wordOf; simp [h1])
      · repeat walk_at "ds"
        exact no (by
          unfold wordOf
          simp only [if_neg h1, if_true]
          split
          · simp at h3
          · rfl)
    repeat walk_at "ds"
    refine two_dec (fun h3 => ?_) (fun h3 => ?_)
    · subst h3
      repeat walk_at "ds"
      refine two_dec (fun h3 => ?_) (fun h3 => ?_)
      · obtain ⟨a, rfl⟩ : ∃ a, rest = [a] := by
          match rest, (show rest.length = 1 by omega) with
          | [a], _ => exact ⟨_, rfl⟩
        repeat walk_at "ds"
        try refine bx_ix_tup rfl ?_
        repeat walk_at "ds"
        refine is_whole_s (g1 a (by simp)) ?_
        repeat walk_at "ds"
        exact fin _ (by unfold wordOf; simp [h1, h2])
      · repeat walk_at "ds"
        exact no (by
          unfold wordOf
          simp only [if_neg h1, if_neg h2, if_true]
          split
          · simp at h3
          · rfl)
    repeat walk_at "ds"
    refine two_dec (fun h4 => ?_) (fun h4 => ?_)
    · subst h4
      repeat walk_at "ds"
      refine is_calling_s g1 hl ?_
      repeat walk_at "ds"
      exact fin _ (by unfold wordOf; simp [h1, h2, h3])
    repeat walk_at "ds"
    refine is_plain_s hrl g1 (by omega) ?_
    repeat walk_at "ds"
    exact fin _ (by unfold wordOf; simp only [if_neg h1, if_neg h2, if_neg h3, if_neg h4])
theorem row_s {r : Nat → Fn} {k : Nat} (H : WS (r 0) k 0) : WS (fnF 3 4 (m_is_row r)) (k + 1) 1 := by
  intro n l d kn ar s Q hf hc hn hl h
  have h : Q (.sh (.bool (rowOf (wrB k 0 kn ar) d))) s := h
  refine frun_fn rfl ?_
  unfold m_is_row
  have nd := hf.nd
  by_cases ht : isTup d = true
  case neg =>
    have ht : isTup d = false := by simpa using ht
    repeat walk_at "ds"
    rw [ht]
    repeat walk_at "ds"
    have e : rowOf (wrB k 0 kn ar) d = false := by cases d <;> first | rfl | simp [isTup] at ht
    rw [trim_len rfl]
    rw [e] at h
    exact h
  obtain ⟨ds, rfl⟩ := isTup_of ht
  have hp : ds.length ≤ 1000 ∧ ∀ d ∈ ds, ∃ m, m < k ∧ Fine m d := by
    generalize hx : PyData.tuple ds = t at hf
    cases hf with
    | @tup n ds l _ h => cases hx; exact ⟨l, fun d hd => ⟨n, by omega, h d hd⟩⟩
    | @chs n ds l _ _ h =>
      cases hx
      exact absurd (hc rfl) (by simp [isCh])
    | _ => cases hx
  repeat walk_at "ds"
  refine ⟨line_of (by omega), run_all _ (wrB k 0 kn ar) (fun d hd => ⟨_, rfl, ?_⟩) ?_⟩
  · obtain ⟨m, hm, fm⟩ := hp.2 d hd
    repeat walk_at "ds"
    refine H fm (fun z => nomatch z) hm hl ?_
    repeat walk_at "ds"
    exact ⟨rfl, rfl, rfl⟩
  repeat walk_at "ds"
  refine ⟨_, shL_map _, ?_⟩
  repeat walk_at "ds"
  refine bx_bools ?_
  repeat walk_at "ds"
  rw [trim_len rfl]
  have e : rowOf (wrB k 0 kn ar) (.tuple ds) = List.all (ds.map (wrB k 0 kn ar)) id := by
    unfold rowOf
    simp [List.all_map]
  rw [← e]
  exact h
end Ds.K06
namespace Ds.K06
open PySem PySem.Spec PyProof.Rows L2 Dn TL
theorem wr : ∀ k, k ≤ 30 → WS (f_G6 k 0) k 0 ∧ WS (f_G6 k 1) k 1
  | 0, _ => ⟨fun _ _ hn => absurd hn (by omega), fun _ _ hn => absurd hn (by omega)⟩
  | k + 1, h => ⟨word_s (by omega) (wr k (by omega)).2, row_s (wr k (by omega)).1⟩
theorem is_row_s {n l : Nat} {d : D} {kn : Kn} {ar : Int} {s : St} {Q : Cl → St → Prop} (hf : Fine n d) (hc : isCh d = false) (hn : n ≤ 13) (hl : s[l]? = some (.dk (knv kn))) (h : Q (.sh (.bool (wrB 14 1 kn ar d))) s) : FRun f_is_row [.sh d, .lo l, .sh (.int ar)] s Q :=
  (wr 14 (by decide)).2 hf (fun _ => hc) (by omega) hl h
inductive FDef : D → Prop where
  | four {a b c r : D} : Fine 13 a → Fine 13 b → Fine 13 c → Fine 13 r → isCh r = false → FDef (.tuple [a, b, c, r])
  | len {ds : List D} : ds.length ≠ 4 → FDef (.tuple ds)
  | no {d : D} : isTup d = false → noDict d = true → FDef d
inductive FProg : D → Prop where
  | two {ds : List D} {m : D} : (∀ d ∈ ds, FDef d) → Fine 13 m → isCh m = false → FProg (.tuple [.tuple ds, m])
  | bad {a m : D} : isTup a = false → noDict a = true → FProg (.tuple [a, m])
  | len {ds : List D} : ds.length ≠ 2 → FProg (.tuple ds)
  | no {d : D} : isTup d = false → noDict d = true → FProg d
theorem FDef.nd {d : D} (h : FDef d) : noDict d = true := by
  cases h with
  | no _ h => exact h
  | _ => rfl
theorem putC_new {n : Str} {c : Cl} {kvs : List (Key × Cl)} (h : valC kvs (.inr n) = none) : putC kvs (.inr n) c = kvs ++ [(.inr n, c)] := by
  have e : (kvs.any fun kv => decide (kv.1 = .inr n)) = false := by
    unfold valC at h
    rw [Option.map_eq_none_iff, List.find?_eq_none] at h
    rw [List.any_eq_false]
    exact h
  unfold putC
  rw [e]
  simp
theorem def_four {kn : Kn} {d : D} (h : defB kn d = true) : ∃ (n : Str) (as gs : List D) (r : D), d = .tuple [.str n, .tuple as, .tuple gs, r] ∧ kn.lookup n = none := by
  unfold defB at h
  split at h
  · rename_i n a g r
    simp only [Bool.and_eq_true, Option.isNone_iff_eq_none] at h
    obtain ⟨_, h1, h2, h3, _⟩ := h
    obtain ⟨as, rfl⟩ := boxes_tup h2
    obtain ⟨gs, rfl⟩ := boxes_tup h3
    exact ⟨n, as, gs, r, rfl, h1⟩
  · cases h
theorem is_def_s {l : Nat} {d : D} {kn : Kn} {s : St} {Q : Cl → St → Prop} (hf : FDef d) (hl : s[l]? = some (.dk (knv kn))) (h : Q (.sh (.bool (defB kn d))) s) : FRun f_is_def [.sh d, .lo l] s Q := by
  refine frun_fn rfl ?_
  unfold m_is_def
  have no : defB kn d = false → Q (.sh (.bool false)) (trim s.length (.sh (.bool false)) s) := fun z => by rw [z] at h; rw [trim_len rfl]; exact h
  have fin : ∀ b : Bool, defB kn d = b → Q (.sh (.bool b)) (trim s.length (.sh (.bool b)) s) := fun b z => by rw [z] at h; rw [trim_len rfl]; exact h
  cases hf with
  | no h1 h2 =>
    repeat walk_at "ds"
    rw [h1]
    repeat walk_at "ds"
    exact no (by cases d <;> first | rfl | simp [isTup] at h1)
  | @len ds h1 =>
    repeat walk_at "ds"
    refine two_dec (fun h2 => ?_) (fun h2 => ?_)
    · exact absurd h2 (by omega)
    repeat walk_at "ds"
    exact no (by
      unfold defB
      split
      · rename_i e
        cases e
        simp at h1
      · rfl)
  | @four x a g r fx fa fg fr hc =>
    have ndx := fx.nd
    repeat walk_at "ds"
    refine two_dec (fun _ => ?_) (fun z => absurd rfl z)
    repeat walk_at "ds"
    refine is_name_s fx ?_
    repeat walk_at "ds"
    by_cases hx : isStr x = true
    case neg =>
      have hx : strP nameB x = false := by cases x <;> first | rfl | simp [isStr] at hx
      rw [hx]
      repeat walk_at "ds"
      exact no (by
        unfold defB
        split
        · rename_i e
          cases e
          simp only [strP] at hx
          rw [hx]
          rfl
        · rfl)
    obtain ⟨n, rfl⟩ : ∃ w, x = .str w := by cases x <;> simp [isStr] at hx; exact ⟨_, rfl⟩
    refine two_b (fun h1 => ?_) (fun h1 => ?_)
    rotate_left
    · repeat walk_at "ds"
      exact no (by
        have h1 : nameB n = false := h1
        simp only [defB, h1, Bool.false_and])
    have h1 : nameB n = true := h1
    repeat walk_at "ds"
    refine ⟨_, _, hl, rfl, ?_⟩
    rw [valC_kn]
    cases hk : kn.lookup n with
    | some p =>
      refine ⟨true, rfl, two_T ?_⟩
      repeat walk_at "ds"
      exact no (by simp [defB, hk])
    | none =>
      refine ⟨false, rfl, two_F ?_⟩
      repeat walk_at "ds"
      refine are_boxes_s fa ?_
      repeat walk_at "ds"
      cases ha : boxesD a with
      | false =>
        repeat walk_at "ds"
        exact no (by simp [defB, ha])
      | true =>
        repeat walk_at "ds"
        refine are_boxes_s fg ?_
        repeat walk_at "ds"
        cases hg : boxesD g with
        | false =>
          repeat walk_at "ds"
          exact no (by simp [defB, hg])
        | true =>
          obtain ⟨as, rfl⟩ := boxes_tup ha
          obtain ⟨gs, rfl⟩ := boxes_tup hg
          repeat walk_at "ds"
          refine two_dec (fun h2 => ?_) (fun h2 => ?_)
          · repeat walk_at "ds"
            refine is_row_s fr hc (Nat.le_refl _) hl ?_
            repeat walk_at "ds"
            exact fin _ (by
              have e : as.length ≤ 4 ∧ gs.length ≤ 4 := by
                have h2 : (if (gs.length : Int) > (as.length : Int) then (gs.length : Int) else (as.length : Int)) ≤ 4 := h2
                split at h2 <;> omega
              simp [defB, h1, hk, ha, hg, lenD, e])
          · repeat walk_at "ds"
            exact no (by
              have e : ¬ (as.length ≤ 4 ∧ gs.length ≤ 4) := by
                have h2 : ¬ (if (gs.length : Int) > (as.length : Int) then (gs.length : Int) else (as.length : Int)) ≤ 4 := h2
                split at h2 <;> omega
              have e2 : decide (lenD (.tuple as) ≤ 4 ∧ lenD (.tuple gs) ≤ 4) = false := decide_eq_false e
              simp only [defB, e2, Bool.false_and, Bool.and_false])
theorem is_program_s {d : D} {s : St} {Q : Cl → St → Prop} (hf : FProg d) (h : ∀ s', Fz s s' → Q (.sh (.bool (progB d))) s') : FRun f_is_program [.sh d] s Q := by
  refine frun_fn rfl ?_
  unfold m_is_program
  have fin : ∀ (b : Bool) (s' : St), Fz s s' → progB d = b → Q (.sh (.bool b)) (trim s.length (.sh (.bool b)) s') := fun b s' F z => by rw [← z]; exact h _ F.trim
  cases hf with
  | no h1 h2 =>
    repeat walk_at "ds"
    rw [h1]
    repeat walk_at "ds"
    exact fin _ _ (Fz.refl _) (by cases d <;> first | rfl | simp [isTup] at h1)
  | @len ds h1 =>
    repeat walk_at "ds"
    refine two_dec (fun h2 => ?_) (fun h2 => ?_)
    · exact absurd h2 (by omega)
    repeat walk_at "ds"
    exact fin _ _ (Fz.refl _) (by
      unfold progB
      split
      · rename_i e
        cases e
        simp at h1
      · rfl)
  | @bad a m h1 h2 =>
    repeat walk_at "ds"
    refine two_dec (fun _ => ?_) (fun z => absurd rfl z)
    repeat walk_at "ds"
    rw [h1]
    repeat walk_at "ds"
    exact fin _ _ (Fz.refl _) (by cases a <;> first | rfl | simp [isTup] at h1)
  | @two ds m hd fm hc =>
    repeat walk_at "ds"
    refine two_dec (fun _ => ?_) (fun z => absurd rfl z)
    repeat walk_at "ds"
    refine two_dec (fun h1 => ?_) (fun h1 => ?_)
    · repeat walk_at "ds"
      exact fin _ _ (Fz.refl _) (by
        have : ¬ ds.length ≤ 6 := by omega
        simp [progB, this])
    have h6 : ds.length ≤ 6 := by omega
    repeat walk_at "ds"
    refine run_forR ds (fun r e s' => ∃ (kn : Kn) (z : Cl), (∀ d ∈ r, FDef d) ∧ kn.length + r.length = ds.length ∧ defsB ds [] = defsB r kn ∧ s'[s.length]? = some (.dk (knv kn)) ∧ Fz s s' ∧ e = [.sh (.tuple [.tuple ds, m]), .lo s.length, z]) ?_ (fun d r e s' hI => ?_) fun e s' hI => ?_
    · exact ⟨[], _, hd, by simp, rfl, app_new, Fz.app, rfl⟩
    · obtain ⟨kn, z, k1, k2, k3, k4, F, rfl⟩ := hI
      refine ⟨_, rfl, ?_⟩
      repeat walk_at "ds"
      refine is_def_s (k1 d (by simp)) k4 ?_
      repeat walk_at "ds"
      cases hb : defB kn d with
      | false =>
        repeat walk_at "ds"
        exact fin _ _ F (by
          simp only [progB, k3, defsB, hb, Bool.and_false, Bool.false_eq_true, if_false])
      | true =>
        obtain ⟨n, as, gs, r', rfl, hn⟩ := def_four hb
        repeat walk_at "ds"
        refine ⟨_, _, k4, rfl, ?_, ?_⟩
        · unfold knv
          rw [List.length_map]
          simp at k2
          exact Nat.lt_of_lt_of_le (show kn.length < 7 by omega) (by decide)
        rw [putC_new (by rw [valC_kn, hn]; rfl)]
        refine turn_nx ?_
        refine ⟨kn ++ [(n, as.length, gs.length)], _, fun d hd => k1 d (List.mem_cons_of_mem _ hd), by simp at k2 ⊢; omega, ?_, ?_, F.put (Nat.le_refl _), rfl⟩
        · rw [k3]
          simp only [defsB, hb, if_true]
          rfl
        · rw [set_same (lt_of_at k4)]
          simp [knv]
    · obtain ⟨kn, z, k1, k2, k3, k4, F, rfl⟩ := hI
      refine seq_nx ?_
      repeat walk_at "ds"
      refine is_row_s fm hc (Nat.le_refl _) k4 ?_
      repeat walk_at "ds"
      exact fin _ _ F (by simp [progB, h6, k3, defsB])
end Ds.K06
namespace Ds.K06
open PySem PySem.Spec PyProof.Rows L2 Dn TL
theorem spl_first (r : List Nat) : ∀ (l acc : List Nat), 46 ∉ l → spl [46] 0 acc (l ++ 46 :: r) = (acc ++ l) :: spl [46] 0 [] r
  | [], acc, _ => by
    rw [List.nil_append, spl_hit (by simp [pre]), List.append_nil]
    rfl
  | c :: l, acc, h => by
    rw [List.cons_append, spl_miss (by simp [pre]; intro z; exact absurd (z ▸ List.mem_cons_self) h), spl_first r l _ fun z => h (List.mem_cons_of_mem _ z)]
    simp
theorem spl_only : ∀ (l acc : List Nat), 46 ∉ l → spl [46] 0 acc l = [acc ++ l]
  | [], acc, _ => by rw [spl_nil, List.append_nil]
  | c :: l, acc, h => by
    rw [spl_miss (by simp [pre]; intro z; exact absurd (z ▸ List.mem_cons_self) h), spl_only l _ fun z => h (List.mem_cons_of_mem _ z)]
    simp
theorem tls_inj : ∀ {xs ys : List Str}, xs.map tl = ys.map tl → xs = ys
  | [], [], _ => rfl
  | [], _ :: _, h => by simp at h
  | _ :: _, [], h => by simp at h
  | x :: xs, y :: ys, h => by
    simp only [List.map_cons, List.cons.injEq] at h
    rw [ext_tl h.1, tls_inj h.2]
theorem parts_spl (x : Str) : (parts x).map tl = spl [46] 0 [] (tl x) := split_spl x ⟨#[46]⟩ (by simp [tl]) (kind_ok (sep_ok (by decide)))
theorem parts_one {x : Str} (h : 46 ∉ tl x) : parts x = [x] := tls_inj (by
  rw [parts_spl, spl_only _ _ h]
  simp)
theorem parts_dot {x y : Str} (h : 46 ∉ tl x) : parts (x ++ "." ++ y) = x :: parts y := tls_inj (by
  have e2 : tl (x ++ "." ++ y) = tl x ++ 46 :: tl y := by
    rw [tl_append, tl_append, List.append_assoc]
    rfl
  rw [parts_spl, e2, spl_first _ _ _ h, List.map_cons, parts_spl]
  simp)
theorem let_mem {c : Nat} : c ∈ tl letters ↔ 97 ≤ c ∧ c ≤ 122 := by
  have e : tl letters = (List.range 26).map (97 + ·) := by decide
  rw [e, List.mem_map]
  constructor
  · rintro ⟨a, h, rfl⟩
    rw [List.mem_range] at h
    omega
  · intro h
    exact ⟨c - 97, List.mem_range.mpr (by omega), by omega⟩
theorem name_nodot {x : Str} (h : nameB x = true) : 46 ∉ tl x := fun z => by
  unfold nameB lettersB at h
  rw [Bool.and_eq_true, List.all_eq_true] at h
  have := let_mem.mp (of_decide_eq_true (h.2 _ z))
  omega
theorem not_tongue {x : Str} (h : (tl x).head? = some 113) : tongue.contains x = false := by
  have e : ∀ y ∈ tongue, (tl y).head? ≠ some 113 := by decide
  rw [Bool.eq_false_iff]
  intro z
  rw [List.contains_iff_mem] at z
  exact e x z h
theorem nm_name {x : Str} (h : Nm x) : nameB x = true := by
  obtain ⟨h1, h2, h3, h4⟩ := h
  unfold nameB lettersB
  rw [decide_eq_true (show 1 ≤ x.length ∧ x.length ≤ 8 from ⟨by omega, h2⟩), not_tongue h4]
  have : ((tl x).all fun c => decide (c ∈ tl letters)) = true := List.all_eq_true.mpr fun c hc => decide_eq_true (let_mem.mpr (h3 c hc))
  rw [this]
  rfl
theorem box_one {x : Str} (h : nameB x = true) : boxB x = true := by
  unfold boxB
  rw [parts_one (name_nodot h)]
  simp [h]
theorem box_two {x y : Str} (h : nameB x = true) (k : nameB y = true) : boxB (x ++ "." ++ y) = true := by
  unfold boxB
  rw [parts_dot (name_nodot h), parts_one (name_nodot k)]
  simp [h, k]
theorem nodot_ne {x y z : Str} (h : 46 ∉ tl x) : x ≠ y ++ "." ++ z := fun e => h (by
  rw [e, tl_append, tl_append]
  simp [show tl "." = [46] from rfl])
theorem dot_ne {x y u v : Str} (hx : 46 ∉ tl x) (hu : 46 ∉ tl u) (hy : 46 ∉ tl y) (hv : 46 ∉ tl v) (h : x ≠ u ∨ y ≠ v) : x ++ "." ++ y ≠ u ++ "." ++ v := fun e => by
  have e1 := parts_dot (y := y) hx
  have e2 := parts_dot (y := v) hu
  rw [e, e2, parts_one hy, parts_one hv] at e1
  simp at e1
  rcases h with h | h
  · exact h e1.1.symm
  · exact h e1.2.symm
/-- boxes as they are drawn -/
def Bx (x : Str) : Prop := nameB x = true ∨ ∃ a b, x = a ++ "." ++ b ∧ nameB a = true ∧ nameB b = true
theorem Bx.box {x : Str} (h : Bx x) : boxB x = true := by
  rcases h with h | ⟨a, b, rfl, h, k⟩
  · exact box_one h
  · exact box_two h k
end Ds.K06
namespace Ds.K06
open PySem PySem.Spec PyProof.Rows L2 Dn TL
theorem trim_lo {n l : Nat} {s : St} (h : n ≤ l) : trim n (.lo l) s = s := by
  unfold trim
  rw [if_neg]
  intro z
  have : Cl.below n (.lo l) = true := by
    have := (Bool.and_eq_true _ _ ▸ z : _ ∧ _).1
    exact this
  simp [Cl.below] at this
  omega
/-- a deck at b -/
def Dk (c b : Nat) (s : St) : Prop := ∃ xs : List D, s[b]? = some (.lst (xs.map Cl.sh)) ∧ Dn.St c xs
/-- all others as they were -/
def Fr (b : Nat) (s s' : St) : Prop := s.length ≤ s'.length ∧ ∀ j, j < s.length → j ≠ b → s'[j]? = s[j]?
theorem Dk.lt {c b : Nat} {s : St} (h : Dk c b s) : b < s.length := by
  obtain ⟨xs, h, _⟩ := h
  exact lt_of_at h
theorem Dk.mono {c c' b : Nat} {s : St} (h : Dk c b s) (k : c ≤ c') : Dk c' b s := by
  obtain ⟨xs, h, q⟩ := h
  exact ⟨xs, h, q.mono k⟩
theorem Dk.of {c b : Nat} {s s' : St} (h : Dk c b s) (k : s'[b]? = s[b]?) : Dk c b s' := by
  obtain ⟨xs, h, q⟩ := h
  exact ⟨xs, k.trans h, q⟩
theorem Dk.trim {c b n : Nat} {k : Cl} {s : St} (h : Dk c b s) (hb : b < n) : Dk c b (trim n k s) := h.of (trim_get hb)
theorem Fr.refl (b : Nat) (s : St) : Fr b s s := ⟨Nat.le_refl _, fun _ _ _ => rfl⟩
theorem Fr.trans {b : Nat} {s s1 s2 : St} (h : Fr b s s1) (k : Fr b s1 s2) : Fr b s s2 := ⟨Nat.le_trans h.1 k.1, fun j hj hb => (k.2 j (Nat.lt_of_lt_of_le hj h.1) hb).trans (h.2 j hj hb)⟩
theorem Fr.trim {b : Nat} {c : Cl} {s s' : St} (h : Fr b s s') : Fr b s (trim s.length c s') := ⟨trim_ge h.1, fun j hj hb => (trim_get hj).trans (h.2 j hj hb)⟩
theorem Fr.set {b : Nat} {o : Ob} {s : St} : Fr b s (s.set b o) := ⟨by simp, fun j _ hb => set_other hb⟩
theorem Fr.app {b : Nat} {o : Ob} {s : St} : Fr b s (s ++ [o]) := ⟨by simp, fun j hj _ => app_old hj⟩
/-- any change that is none of the old -/
theorem Fr.put {b l : Nat} {o : Ob} {s0 s : St} (h : Fr b s0 s) (hl : s0.length ≤ l) : Fr b s0 (s.set l o) := ⟨by simpa using h.1, fun j hj hb => (set_other (by omega)).trans (h.2 j hj hb)⟩
theorem Fr.at_ {b l : Nat} {o : Ob} {s s' : St} (h : Fr b s s') (k : s[l]? = some o) (hb : l ≠ b) : s'[l]? = some o := (h.2 l (lt_of_at k) hb).trans k
end Ds.K06
namespace Ds.K06
open PySem PySem.Spec PyProof.Rows L2 Dn TL
theorem draw {c b : Nat} {s : St} {n : Int} {Q : Cl → St → Prop} (hs : Dk c b s) (hc : c ≤ 1000000) (hn : 0 < n ∧ n < 1073741824) (h : ∀ (got : Int) (s' : St), 0 ≤ got → got < n → Dk (c + 1) b s' → Fr b s s' → Q (.sh (.int got)) s') : FRun f__law_draw [.lo b, .sh (.int n)] s Q := by
  have hlt := hs.lt
  obtain ⟨xs, hx, a, d, k, rfl, h1, h2, h3, h4, h5⟩ := hs
  refine frun_fn rfl ?_
  unfold m__law_draw
  repeat walk_at "ds"
  refine ⟨_, ixC_lo hx rfl, ?_⟩
  repeat walk_at "ds"
  refine two_dec (fun h6 => ?_) (fun h6 => ?_)
  · repeat walk_at "ds"
    refine ⟨_, ixC_lo hx rfl, ?_⟩
    repeat walk_at "ds"
    refine ⟨_, ixC_lo hx rfl, ?_⟩
    repeat walk_at "ds"
    refine ⟨_, _, 0, hx, rfl, rfl, ?_⟩
    repeat walk_at "ds"
    refine h _ _ (Int.emod_nonneg _ (by omega)) (Int.emod_lt_of_pos _ hn.1) (Dk.trim ⟨[.int (a / n), .int d, .int k], set_same hlt, _, _, _, rfl, Int.ediv_nonneg h1 (by omega), h2, h3, h4, by omega⟩ hlt) Fr.set.trim
  · repeat walk_at "ds"
    refine ⟨_, ixC_lo hx rfl, ?_⟩
    repeat walk_at "ds"
    refine ⟨_, _, 2, hx, rfl, rfl, ?_⟩
    have hx' : (s.set b (.lst (([.sh (.int a), .sh (.int d), .sh (.int k)] : List Cl).set 2 (.sh (.int (k + 1))))))[b]? = some (.lst [.sh (.int a), .sh (.int d), .sh (.int (k + 1))]) := set_same hlt
    repeat walk_at "ds"
    refine ⟨_, ixC_lo hx' rfl, ?_⟩
    repeat walk_at "ds"
    refine ⟨_, ixC_lo hx' rfl, ?_⟩
    repeat walk_at "ds"
    refine ⟨_, ixC_lo hx' rfl, ?_⟩
    repeat walk_at "ds"
    refine h _ _ (Int.emod_nonneg _ (by omega)) (Int.emod_lt_of_pos _ hn.1) (Dk.trim ⟨[.int a, .int d, .int (k + 1)], set_same hlt, _, _, _, rfl, h1, h2, h3, by omega, by omega⟩ hlt) Fr.set.trim
theorem deck {ns : List Int} {k : Int} {s : St} {Q : Cl → St → Prop} (hk : 0 ≤ k) (h : ∀ st, Dn.St 0 st → Q (.lo s.length) (s ++ [.lst (st.map Cl.sh)])) : FRun f__law_deck [.sh (.list (ns.map PyData.int)), .sh (.int k)] s Q := by
  refine frun_fn rfl ?_
  unfold m__law_deck
  have fin : ∀ v : Int, Q (.lo s.length) (trim s.length (.lo s.length) (s ++ [.lst [.sh (.int (v * if decide (10 ^ Int.toNat 18 ≤ v) = true then 1 else 0)), .sh (.int (v % 2147483647)), .sh (.int 0)]])) := fun v => by
    rw [trim_lo (Nat.le_refl _)]
    refine h [_, _, _] ⟨_, _, _, rfl, ?_, Int.emod_nonneg _ (by omega), Int.emod_lt_of_pos _ (by omega), by omega, by omega⟩
    by_cases q : (10 : Int) ^ (18 : Int).toNat ≤ v
    · rw [decide_eq_true q]
      have : (0 : Int) ≤ 10 ^ (18 : Int).toNat := by decide
      simp
      omega
    · rw [decide_eq_false q]
      simp
  repeat walk_at "ds"
  refine two_dec (fun h6 => ?_) (fun h6 => ?_)
  · repeat walk_at "ds"
    rw [List.length_map] at h6
    have hlt : k.toNat < ns.length := by omega
    refine bx_ix_lst (d := .int ns[k.toNat]) ?_ ?_
    · unfold atI ixN
      rw [List.length_map, if_pos hk, if_pos h6]
      simp [hlt]
    repeat walk_at "ds"
    exact fin _
  · repeat walk_at "ds"
    exact fin 0
end Ds.K06
namespace Ds.K06
open PySem PySem.Spec PyProof.Rows L2 Dn TL
theorem ix_abcE {i : Int} {Q : D → Prop} (h0 : 0 ≤ i) (h1 : i < 26) (h : Q (.str ⟨#[97 + i.toNat]⟩)) : ∃ c, dIx (.str abc) (.int i) = some c ∧ Q c := by
  refine bx_ix_str (c := 97 + i.toNat) (by decide) ?_ h
  have e : abc.cps.toList = (List.range 26).map (97 + ·) := by decide
  rw [e]
  unfold atI ixN
  rw [if_pos h0, if_pos (by simpa using h1)]
  show ((List.range 26).map (97 + ·))[i.toNat]? = some (97 + i.toNat)
  rw [List.getElem?_map, List.getElem?_range (by omega)]
  rfl
/-- the letters of a name -/
theorem nm_tl (ss : List Str) (z : Str) : tl ("q" ++ Txt.join "" ss ++ z) = 113 :: ss.flatMap tl ++ tl z := by
  rw [tl_append, tl_append]
  have : Txt.join "" ss = Txt.join Str.empty ss := rfl
  rw [this, Dn.tl_join]
  rfl
theorem flat_at : ∀ (ss : List Str) (k c : Nat), (∀ s ∈ ss, Lt s) → ss[k]? = some ⟨#[c]⟩ → (ss.flatMap tl)[k]? = some c
  | [], k, c, _, h => by simp at h
  | s :: r, 0, c, _, h => by
    simp at h; subst h
    simp [tl]
  | s :: r, k + 1, c, hl, h => by
    obtain ⟨d, rfl, _⟩ := hl _ List.mem_cons_self
    have := flat_at r k c (fun t ht => hl t (List.mem_cons_of_mem _ ht)) (by simpa using h)
    rw [List.flatMap_cons]
    simpa [tl] using this
def Nmq (x : Str) : Prop := Nm x ∧ x ≠ "qnosuchy"
theorem Nmq.mk' {ss : List Str} {z : Str} (h : ∀ s ∈ ss, Lt s) (h1 : 1 ≤ ss.length) (h6 : ss.length ≤ 6) (hz : z = "" ∨ z = "z") : Nmq ("q" ++ Txt.join "" ss ++ z) := by
  refine ⟨Nm.mk' h h1 h6 hz, fun e => ?_⟩
  have e2 := nm_tl ss z
  rw [e] at e2
  have e3 : tl "qnosuchy" = [113, 110, 111, 115, 117, 99, 104, 121] := by decide
  rw [e3] at e2
  obtain ⟨i1, i2⟩ := lt_flat ss h
  have e4 := congrArg List.length e2
  rcases hz with rfl | rfl
  · have : (tl "").length = 0 := by decide
    simp [i1, this] at e4
    omega
  · have ez : tl "z" = [122] := by decide
    rw [ez] at e2 e4
    simp [i1] at e4
    have e5 := congrArg (fun l => l[7]?) e2
    have e6 : (113 :: ss.flatMap tl ++ [122])[7]? = some 122 := by
      rw [List.getElem?_append_right (by simp [i1]; omega)]
      have : 7 - (113 :: ss.flatMap tl).length = 0 := by simp [i1]; omega
      rw [this]
      rfl
    have e5 : ([113, 110, 111, 115, 117, 99, 104, 121] : List Nat)[7]? = (113 :: ss.flatMap tl ++ [122])[7]? := e5
    rw [e6] at e5
    simp at e5
/-- names: unlike, none of them the one that is nobody's -/
structure Names (xs : List Str) : Prop where
  nm : ∀ x ∈ xs, Nmq x
  nd : xs.Nodup
end Ds.K06
namespace Ds.K06
open PySem PySem.Spec PyProof.Rows L2 Dn TL
theorem names {c b : Nat} {s : St} {n : Int} {Q : Cl → St → Prop} (hs : Dk c b s) (hc : c ≤ 900000) (hn : 0 ≤ n ∧ n ≤ 26) (h : ∀ (xs : List Str) (l : Nat) (s' : St), Names xs → (∀ x, xs[0]? = some x → x.length ≤ 7) → xs.length = n.toNat → Dk (c + 10) b s' → Fr b s s' → s.length ≤ l → s'[l]? = some (.lst ((xs.map PyData.str).map Cl.sh)) → Q (.lo l) s') : FRun f__law_names [.lo b, .sh (.int n)] s Q := by
  have hlt := hs.lt
  refine frun_fn rfl ?_
  unfold m__law_names
  repeat walk_at "ds"
  refine draw hs (by omega) (by omega) fun n1 s1 a1 b1 S1 F1 => ?_
  repeat walk_at "ds"
  refine ⟨by rw [rngD_length]; exact line_of (by omega), ?_⟩
  refine run_compL _ (fun i ys e s' => ∃ (ss : List Str), ys = ss.map PyData.str ∧ ss.length = i ∧ (∀ s ∈ ss, Lt s) ∧ Dk (c + 1 + i) b s' ∧ Fr b s s' ∧ e = [.lo b, .sh (.int n), .sh (.str abc), .no, .no, .no, .no, .no, .no]) ?_ (fun i d ys e s' hd hJ => ?_) fun ys e s' hJ => ?_
  · exact ⟨[], rfl, rfl, by simp, S1, F1, rfl⟩
  · obtain ⟨ss, rfl, e2, e3, S, F, rfl⟩ := hJ
    obtain ⟨rfl, hi⟩ := rngD_at hd
    refine ⟨_, rfl, ?_⟩
    repeat walk_at "ds"
    refine draw S (by omega) (by omega) fun n2 s2 a2 b2 S2 F2 => ?_
    repeat walk_at "ds"
    refine ix_abc a2 b2 fun t ht => ?_
    refine ⟨ss ++ [t], by simp, by simp [e2], fun u hu => ?_, S2, F.trans F2, rfl⟩
    rcases List.mem_append.mp hu with q | q
    · exact e3 u q
    · simp at q; subst q; exact ht
  · obtain ⟨ss, rfl, e2, e3, S2, F2, rfl⟩ := hJ
    rw [rngD_length] at e2 S2
    repeat walk_at "ds"
    have h2lt := S2.lt
    have le2 := F2.1
    have at3 : (s' ++ [Ob.lst ((ss.map PyData.str).map Cl.sh)])[s'.length]? = some (.lst ((ss.map PyData.str).map Cl.sh)) := app_new
    refine ⟨_, by unfold snaps; rw [snap_list at3]; rfl, ?_⟩
    repeat walk_at "ds"
    rw [List.length_map, e2]
    have S3 : Dk (c + 1 + (1 + n1).toNat) b (s' ++ [Ob.lst ((ss.map PyData.str).map Cl.sh)]) := S2.of (app_old h2lt)
    refine draw S3 (by omega) (by omega) fun n3 s3 a3 b3 S3 F3 => ?_
    repeat walk_at "ds"
    refine draw S3 (by omega) (by omega) fun n4 s4 a4 b4 S4 F4 => ?_
    repeat walk_at "ds"
    refine draw S4 (by omega) (by omega) fun n5 s5 a5 b5 S5 F5 => ?_
    repeat walk_at "ds"
    have at5 := (F3.trans (F4.trans F5)).at_ at3 (by omega)
    have l5 : s'.length < s5.length := lt_of_at at5
    have F05 : Fr b s s5 := (F2.trans Fr.app).trans (F3.trans (F4.trans F5))
    refine run_forL _ (fun i e s7 => ∃ (ss xs : List Str) (z : Cl), ss.length = (1 + n1).toNat ∧ (∀ s ∈ ss, Lt s) ∧ (∀ x ∈ xs, Nmq x) ∧ xs.length = i ∧ (∀ (j : Nat) (x : Str), xs[j]? = some x → (tl x)[1 + n3.toNat]? = some (97 + ((n4 + j) % 26).toNat)) ∧ (∀ x, xs[0]? = some x → x.length ≤ 7) ∧ Dk (c + 10) b s7 ∧ Fr b s s7 ∧ s7[s'.length]? = some (.lst ((ss.map PyData.str).map Cl.sh)) ∧ s7[s5.length]? = some (.lst ((xs.map PyData.str).map Cl.sh)) ∧ e = [.lo b, .sh (.int n), .sh (.str abc), .lo s'.length, .sh (.int n3), .sh (.int n4), .sh (.int n5), .lo s5.length, z]) ?_ (fun i d e s7 hd hI => ?_) fun e s7 hI => ?_
    · exact ⟨ss, [], _, e2, e3, by simp, rfl, by simp, by simp, (S5.of (app_old (by omega))).mono (by omega), F05.trans Fr.app, (app_old l5).trans at5, app_new, rfl⟩
    · obtain ⟨ss, xs, z, f1, f2, f3, f4, f5, f6, S7, F7, g1, g2, rfl⟩ := hI
      obtain ⟨rfl, hi⟩ := rngD_at hd
      refine ⟨_, rfl, ?_⟩
      repeat walk_at "ds"
      refine ix_abcE (Int.emod_nonneg _ (by omega)) (Int.emod_lt_of_pos _ (by omega)) ?_
      generalize hs : (⟨#[97 + ((n4 + (0 + (i : Int))) % 26).toNat]⟩ : Str) = t
      have ht : Lt t := ⟨_, hs.symm, by omega, by omega⟩
      repeat walk_at "ds"
      refine ⟨_, _, n3.toNat, g1, rfl, ixN_in a3 (by simp; omega), ?_⟩
      rw [← List.map_set, ← List.map_set]
      have k1 : (ss.set n3.toNat t).length = (1 + n1).toNat := by rw [List.length_set, f1]
      have k2 : ∀ u ∈ ss.set n3.toNat t, Lt u := fun u hu => (List.mem_or_eq_of_mem_set hu).elim (f2 u) fun q => q ▸ ht
      have k0 : (ss.set n3.toNat t)[n3.toNat]? = some t := List.getElem?_set_self (by omega)
      have k3 : joinN ("" : Str) (ss.set n3.toNat t) ≤ (ss.set n3.toNat t).length * 1 := joinN_le fun t ht => (k2 t ht).ok.1
      have kj : Nm ("q" ++ Txt.join "" (ss.set n3.toNat t) ++ "") := Nm.mk' k2 (by omega) (by omega) (.inl rfl)
      have kk : ("q" ++ Txt.join "" (ss.set n3.toNat t) : Str).length ≤ 8 := by
        have := kj.2.1
        rw [len_append] at this
        exact Nat.le_trans (Nat.le_add_right _ _) this
      have kq : (("q" : Str).length) = 1 := rfl
      have kz : (("z" : Str).length) = 1 := rfl
      have kl : (Txt.join "" (ss.set n3.toNat t) : Str).length ≤ 8 := by
        rw [len_append] at kk
        omega
      have g1' : ∀ o, (s7.set s'.length o)[s'.length]? = some o := fun o => set_same (lt_of_at g1)
      have g2' : ∀ o, (s7.set s'.length o)[s5.length]? = some (.lst ((xs.map PyData.str).map Cl.sh)) := fun o => (set_other (by omega)).trans g2
      repeat walk_at "ds"
      refine ⟨_, g2' _, ?_⟩
      repeat walk_at "ds"
      refine ⟨_, snap_list (g1' _), ?_⟩
      refine bx_joinO (by omega) ?_
      have em : (0 + (i : Int)) % 2 = 0 ∨ (0 + (i : Int)) % 2 = 1 := by omega
      have en : n5 = 0 ∨ n5 = 1 := by omega
      have er : ((0 + (i : Int)) % 2 * n5 = 0) ∨ ((0 + (i : Int)) % 2 * n5 = 1) := by
        rcases em with em | em <;> rcases en with en | en <;> rw [em, en] <;> simp
      have rz : strRep "z" ((0 + (i : Int)) % 2 * n5) = "" ∨ strRep "z" ((0 + (i : Int)) % 2 * n5) = "z" := by
        rcases er with er | er
        · rw [er]; exact .inl rfl
        · rw [er]; exact .inr rfl
      have hrep : -1000000 ≤ (0 + (i : Int)) % 2 * n5 ∧ (0 + (i : Int)) % 2 * n5 ≤ 1000000 ∧ ("z" : Str).length ≤ 16 := by
        refine ⟨?_, ?_, by decide⟩ <;> rcases er with er | er <;> rw [er] <;> decide
      generalize hr : strRep "z" ((0 + (i : Int)) % 2 * n5) = rep at rz
      have rl : rep.length ≤ 1 := by
        rcases rz with rfl | rfl <;> decide
      repeat walk_at "ds"
      rw [hr]
      refine bx_add_str (line_of (by omega)) ?_
      refine ⟨_, g2' _, line_of (by simp; omega), ?_⟩
      refine turn_nx ?_
      have l7 : s5.length < s7.length := lt_of_at g2
      refine ⟨ss.set n3.toNat t, xs ++ [("q" ++ Txt.join "" (ss.set n3.toNat t) ++ rep)], _, k1, k2, fun x hx => ?_, by simp [f4], fun j x hx => ?_, fun x hx => ?_, ?_, (F7.put le2).put (by omega), (set_other (by omega)).trans (g1' _), ?_, rfl⟩
      · rcases List.mem_append.mp hx with q | q
        · exact f3 x q
        · simp at q; subst q; exact Nmq.mk' k2 (by omega) (by omega) rz
      · by_cases hj : j < xs.length
        · rw [List.getElem?_append_left hj] at hx
          exact f5 j x hx
        · have hlen := (List.getElem?_eq_some_iff.mp hx).1
          simp at hlen
          obtain rfl : j = i := by omega
          rw [List.getElem?_append_right (by omega), f4, Nat.sub_self] at hx
          simp at hx
          subst hx
          have q2 := lt_flat _ k2
          rw [nm_tl, List.getElem?_append_left (by simp [q2.1]; omega), Nat.add_comm, List.getElem?_cons_succ]
          refine flat_at _ _ _ k2 ?_
          rw [k0, ← hs]
          simp
      · by_cases hj : 0 < xs.length
        · rw [List.getElem?_append_left hj] at hx
          exact f6 x hx
        · have e0 : i = 0 := by omega
          have x0 : xs = [] := List.length_eq_zero_iff.mp (by omega)
          subst e0 x0
          simp at hx
          subst hx
          have r0 : rep = "" := by
            rw [← hr]
            simp
            rfl
          rw [r0, len_append, len_append]
          have e1 : (Txt.join "" (ss.set n3.toNat t) : Str).length ≤ 6 := by
            have q2 := lt_flat _ k2
            have := nm_tl (ss.set n3.toNat t) ""
            have e2 := congrArg List.length this
            rw [← len_tl, len_append, len_append] at e2
            have e3 : (tl ("" : Str)).length = 0 := by decide
            have e4 : (("" : Str).length) = 0 := rfl
            rw [kq, e4, List.length_append, List.length_cons, q2.1, k1, e3] at e2
            omega
          have e4 : (("" : Str).length) = 0 := rfl
          omega
      · exact (S7.of (set_other (by omega))).of (set_other (by omega))
      · rw [set_same (by simp; omega)]
        simp
    · obtain ⟨ss, xs, z, f1, f2, f3, f4, f5, f6, S7, F7, g1, g2, rfl⟩ := hI
      rw [rngD_length] at f4
      refine seq_nx ?_
      repeat walk_at "ds"
      have ls : s.length ≤ s5.length := F05.1
      rw [trim_lo ls]
      refine h xs _ s7 ⟨f3, ?_⟩ f6 (by omega) S7 F7 ls g2
      refine List.pairwise_iff_getElem.mpr fun i j hi hj hij e => ?_
      have e1 := f5 i _ (List.getElem?_eq_getElem hi)
      have e2 := f5 j xs[i] (by rw [e]; exact List.getElem?_eq_getElem hj)
      rw [e1] at e2
      simp at e2
      omega
end Ds.K06
namespace Ds.K06
open PySem PySem.Spec PyProof.Rows L2 Dn TL
theorem list20 {α : Type} {xs : List α} (h : xs.length = 20) : ∃ x0 x1 x2 x3 x4 x5 x6 x7 x8 x9 y0 y1 y2 y3 y4 y5 y6 y7 y8 y9 : α, xs = [x0, x1, x2, x3, x4, x5, x6, x7, x8, x9, y0, y1, y2, y3, y4, y5, y6, y7, y8, y9] := by
  match xs, h with
  | [x0, x1, x2, x3, x4, x5, x6, x7, x8, x9, y0, y1, y2, y3, y4, y5, y6, y7, y8, y9], _ => exact ⟨_, _, _, _, _, _, _, _, _, _, _, _, _, _, _, _, _, _, _, _, rfl⟩
/-- the texts of a kit -/
structure KP where
  B : List Str
  R : List Str
  W : List Str
  C : List Str
def dStrs (xs : List Str) : D := .list (xs.map PyData.str)
structure KPok (p : KP) : Prop where
  b6 : p.B.length = 6
  r3 : p.R.length = 3
  w4 : p.W.length = 4
  c6 : p.C.length = 6
  b : ∀ x ∈ p.B, Ok 20 x
  r : ∀ x ∈ p.R, Ok 20 x
  w : ∀ x ∈ p.W, Ok 20 x
  bb : ∀ x ∈ p.B, Bx x
  bd : p.B.Nodup
  rn : ∀ x ∈ p.R, nameB x = true
  wn : ∀ x ∈ p.W, nameB x = true
  c : Names p.C
def kvs (p : KP) (b q : Nat) (lf : Int) : List (Key × Cl) := [(.inr "deck", .lo b), (.inr "boxes", .sh (dStrs p.B)), (.inr "records", .sh (dStrs p.R)), (.inr "worths", .sh (dStrs p.W)), (.inr "called", .sh (dStrs p.C)), (.inr "known", .lo q), (.inr "left", .sh (.int lf))]
def knD (x : Str × Nat × Nat) : D := .tuple [.str x.1, .int x.2.1, .int x.2.2]
structure Kt (p : KP) (b k q : Nat) (c lf : Nat) (kn : List (Str × Nat × Nat)) (s : St) : Prop where
  bk : b < k
  kq : k < q
  dk : Dk c b s
  ki : s[k]? = some (.dk (kvs p b q lf))
  kn : s[q]? = some (.lst ((kn.map knD).map Cl.sh))
theorem kit_m1 (c1 c2 c3 c4 : Cl) : mergeC [] [(Sum.inr (Str.ofString "deck"), c1), (Sum.inr (Str.ofString "boxes"), c2), (Sum.inr (Str.ofString "records"), c3), (Sum.inr (Str.ofString "worths"), c4)] = ([(Sum.inr (Str.ofString "deck"), c1), (Sum.inr (Str.ofString "boxes"), c2), (Sum.inr (Str.ofString "records"), c3), (Sum.inr (Str.ofString "worths"), c4)] : List (Key × Cl)) := rfl
theorem kit_m2 (c1 c2 c3 : Cl) : mergeC [] [(Sum.inr (Str.ofString "called"), c1), (Sum.inr (Str.ofString "known"), c2), (Sum.inr (Str.ofString "left"), c3)] = ([(Sum.inr (Str.ofString "called"), c1), (Sum.inr (Str.ofString "known"), c2), (Sum.inr (Str.ofString "left"), c3)] : List (Key × Cl)) := rfl
theorem kit_m3 (c1 c2 c3 c4 c5 c6 c7 : Cl) : mergeC [(Sum.inr (Str.ofString "deck"), c1), (Sum.inr (Str.ofString "boxes"), c2), (Sum.inr (Str.ofString "records"), c3), (Sum.inr (Str.ofString "worths"), c4)] [(Sum.inr (Str.ofString "called"), c5), (Sum.inr (Str.ofString "known"), c6), (Sum.inr (Str.ofString "left"), c7)] = ([(Sum.inr (Str.ofString "deck"), c1), (Sum.inr (Str.ofString "boxes"), c2), (Sum.inr (Str.ofString "records"), c3), (Sum.inr (Str.ofString "worths"), c4), (Sum.inr (Str.ofString "called"), c5), (Sum.inr (Str.ofString "known"), c6), (Sum.inr (Str.ofString "left"), c7)] : List (Key × Cl)) := rfl
theorem kit_st (s : St) (o1 o3 : Ob) : (s ++ [o1] ++ [Ob.lst []] ++ [o3])[s.length]? = some o1 ∧ (s ++ [o1] ++ [Ob.lst []] ++ [o3])[(s ++ [o1] ++ [Ob.lst []]).length]? = some o3 := by
  refine ⟨?_, app_new⟩
  rw [app_old (by simp), app_old (by simp), app_new]
theorem kit_st2 (s : St) (o1 o3 o : Ob) : ((s ++ [o1] ++ [Ob.lst []] ++ [o3]).set s.length o)[s.length]? = some o ∧ ((s ++ [o1] ++ [Ob.lst []] ++ [o3]).set s.length o)[(s ++ [o1]).length]? = some (.lst []) ∧ ∀ j, j < s.length → ((s ++ [o1] ++ [Ob.lst []] ++ [o3]).set s.length o)[j]? = s[j]? := by
  refine ⟨set_same (by simp), ?_, fun j hj => ?_⟩
  · rw [set_other (by simp), app_old (by simp), app_new]
  · rw [set_other (by omega), app_old (by simp; omega), app_old (by simp; omega), app_old hj]
end Ds.K06
namespace Ds.K06
open PySem PySem.Spec PyProof.Rows L2 Dn TL
theorem kit {c b : Nat} {s : St} {Q : Cl → St → Prop} (hs : Dk c b s) (hc : c ≤ 800000) (h : ∀ (p : KP) (k q : Nat) (s' : St), KPok p → Kt p b k q (c + 12) 40 [] s' → Q (.lo k) s') : FRun f__law_kit [.lo b] s Q := by
  have hlt := hs.lt
  refine frun_fn rfl ?_
  unfold m__law_kit
  repeat walk_at "ds"
  refine names hs (by omega) (by omega) fun xs l s1 N N0 e D1 F1 ge at1 => ?_
  repeat walk_at "ds"
  refine draw D1 (by omega) (by omega) fun n1 s2 a1 b1 D2 F2 => ?_
  repeat walk_at "ds"
  have at2 := F2.at_ at1 (by omega)
  obtain ⟨x0, x1, x2, x3, x4, x5, x6, x7, x8, x9, y0, y1, y2, y3, y4, y5, y6, y7, y8, y9, rfl⟩ := list20 e
  have K : ∀ x ∈ [x0, x1, x2, x3, x4, x5, x6, x7, x8, x9], Ok 9 x := fun x hx => ((N.nm x (List.mem_append_left [y0, y1, y2, y3, y4, y5, y6, y7, y8, y9] hx)).1.ok).mono (by decide)
  have k0 : Ok 8 x0 := (N.nm x0 List.mem_cons_self).1.ok
  have yok : Ok 1 "y" := Ok.lit _ _ (by decide)
  have l0 := k0.1
  have ly := yok.1
  have KN : ∀ x ∈ [x0, x1, x2, x3, x4, x5, x6, x7, x8, x9], nameB x = true := fun x hx => nm_name (N.nm x (List.mem_append_left [y0, y1, y2, y3, y4, y5, y6, y7, y8, y9] hx)).1
  have nd10 : [x0, x1, x2, x3, x4, x5, x6, x7, x8, x9].Nodup := (List.nodup_append.mp (show ([x0, x1, x2, x3, x4, x5, x6, x7, x8, x9] ++ [y0, y1, y2, y3, y4, y5, y6, y7, y8, y9]).Nodup from N.nd)).1
  have z4 : nameB x4 = true ∧ x4 ≠ x0 := ⟨KN x4 (by simp), fun e => by rw [e] at nd10; simp at nd10⟩
  have zy : nameB (x0 ++ "y") = true ∧ x0 ++ "y" ≠ x0 := by
    have nm0 := (N.nm x0 List.mem_cons_self).1
    have h7 := N0 x0 rfl
    refine ⟨nm_name ⟨?_, ?_, fun c hc => ?_, ?_⟩, fun e => ?_⟩
    · rw [len_append]; have := nm0.1; omega
    · rw [len_append]; have : ("y" : Str).length = 1 := rfl; omega
    · rw [tl_append] at hc
      rcases List.mem_append.mp hc with z | z
      · exact nm0.2.2.1 c z
      · have e : tl "y" = [121] := by decide
        rw [e] at z
        simp at z
        omega
    · rw [tl_append]
      have := nm0.2.2.2
      cases q : tl x0 with
      | nil => rw [q] at this; cases this
      | cons a l => rw [q] at this; exact this
    · have := congrArg Str.length e
      rw [len_append] at this
      have : ("y" : Str).length = 1 := rfl
      omega
  refine two_join (fun e s3 => ∃ z, Ok 9 z ∧ (nameB z = true ∧ z ≠ x0) ∧ e = [.lo b, .lo l, .no, .no, .no] ∧ Dk (c + 11) b s3 ∧ s.length ≤ s3.length ∧ s3[l]? = some (.lst (([x0, x1, x2, x3, z, x5, x6, x7, x8, x9, y0, y1, y2, y3, y4, y5, y6, y7, y8, y9].map PyData.str).map Cl.sh))) (fun h1 => ?_) (fun h1 => ?_) ?_
  · repeat walk_at "ds"
    refine ⟨_, ixC_lo at2 rfl, ?_⟩
    repeat walk_at "ds"
    refine ⟨_, _, 4, at2, rfl, rfl, rfl, ?_⟩
    refine ⟨x0 ++ "y", k0.append yok, zy, rfl, D2.of (set_other (by omega)), by simp; exact Nat.le_trans F1.1 F2.1, set_same (lt_of_at at2)⟩
  · repeat walk_at "ds"
    exact ⟨rfl, x4, K x4 (by simp), z4, rfl, D2, Nat.le_trans F1.1 F2.1, at2⟩
  rintro e s3 ⟨z, zok, ⟨znm, zne⟩, rfl, D3, ge3, at3⟩
  have o1 := K x1 (by simp)
  have o3 := K x3 (by simp)
  have m1 := o1.1
  have m3 := o3.1
  have mz := zok.1
  have dot : Ok 1 "." := Ok.lit _ _ (by decide)
  have md := dot.1
  have c1 := (k0.append dot).1
  have c2 := (zok.append dot).1
  repeat walk_at "ds"
  refine ⟨_, snap_list at3, ?_⟩
  repeat walk_at "ds"
  refine ⟨_, ixC_lo at3 rfl, ?_⟩
  repeat walk_at "ds"
  refine ⟨_, ixC_lo at3 rfl, ?_⟩
  repeat walk_at "ds"
  refine ⟨_, ixC_lo at3 rfl, ?_⟩
  repeat walk_at "ds"
  refine ⟨_, ixC_lo at3 rfl, ?_⟩
  repeat walk_at "ds"
  refine ⟨_, ixC_lo at3 rfl, ?_⟩
  repeat walk_at "ds"
  refine ⟨_, ixC_lo at3 rfl, ?_⟩
  repeat walk_at "ds"
  refine ⟨_, snap_list at3, ?_⟩
  repeat walk_at "ds"
  refine draw D3 (by omega) (by omega) fun n4 s4 a4 b4 D4 F4 => ?_
  repeat walk_at "ds"
  have at4 := F4.at_ at3 (by omega)
  have ge4 := Nat.le_trans ge3 F4.1
  refine bx_ix_in a4 (by simp; omega) fun w hw => ?_
  have hw : w ∈ [dStrs [x6, x7, x8, x9], dStrs ["same", "way", "left", "by"]] := hw
  have hW : ∃ W, w = dStrs W ∧ W.length = 4 ∧ ∀ x ∈ W, Ok 20 x ∧ nameB x = true := by
    rcases List.mem_cons.mp hw with rfl | hw
    · refine ⟨_, rfl, rfl, fun x hx => ?_⟩
      have hx : x ∈ [x0, x1, x2, x3, x4, x5, x6, x7, x8, x9] := by
        simp at hx ⊢
        rcases hx with rfl | rfl | rfl | rfl <;> simp
      exact ⟨(K x hx).mono (by decide), KN x hx⟩
    · simp at hw
      refine ⟨_, hw, rfl, fun x hx => ?_⟩
      simp at hx
      rcases hx with rfl | rfl | rfl | rfl <;> exact ⟨Ok.lit _ _ (by decide), by decide⟩
  obtain ⟨W, rfl, hW1, hW2⟩ := hW
  have l4 := lt_of_at at4
  repeat walk_at "ds"
  refine ⟨_, ixC_lo at4 rfl, ?_⟩
  repeat walk_at "ds"
  refine ⟨_, ixC_lo at4 rfl, ?_⟩
  repeat walk_at "ds"
  refine ⟨_, ixC_lo at4 rfl, ?_⟩
  repeat walk_at "ds"
  refine ⟨_, app_new, ?_⟩
  repeat walk_at "ds"
  refine ⟨_, snap_list ((app_old l4).trans at4), ?_⟩
  repeat walk_at "ds"
  have hp : KPok ⟨[x0, x1, x2, x0 ++ "." ++ x3, z ++ "." ++ x3, z ++ "." ++ x1], [x0, z, x2], W, [y0, y1, y2, y3, y4, y5]⟩ := by
    refine ⟨rfl, rfl, hW1, rfl, fun x hx => ?_, fun x hx => ?_, fun x hx => (hW2 x hx).1, fun x hx => ?_, ?_, fun x hx => ?_, fun x hx => (hW2 x hx).2, fun x hx => N.nm x ?_, ?_⟩
    · simp at hx
      rcases hx with rfl | rfl | rfl | rfl | rfl | rfl
      · exact k0.mono (by decide)
      · exact o1.mono (by decide)
      · exact (K _ (by simp)).mono (by decide)
      · exact ((k0.append dot).append o3).mono (by decide)
      · exact ((zok.append dot).append o3).mono (by decide)
      · exact ((zok.append dot).append o1).mono (by decide)
    · simp at hx
      rcases hx with rfl | rfl | rfl
      · exact k0.mono (by decide)
      · exact zok.mono (by decide)
      · exact (K _ (by simp)).mono (by decide)
    · simp at hx
      rcases hx with rfl | rfl | rfl | rfl | rfl | rfl
      · exact .inl (KN _ (by simp))
      · exact .inl (KN _ (by simp))
      · exact .inl (KN _ (by simp))
      · exact .inr ⟨_, _, rfl, KN _ (by simp), KN _ (by simp)⟩
      · exact .inr ⟨_, _, rfl, znm, KN _ (by simp)⟩
      · exact .inr ⟨_, _, rfl, znm, KN _ (by simp)⟩
    · have n0 := name_nodot (KN x0 (by simp))
      have n1 := name_nodot (KN x1 (by simp))
      have n2 := name_nodot (KN x2 (by simp))
      have n3 := name_nodot (KN x3 (by simp))
      have nz := name_nodot znm
      have d01 : x0 ≠ x1 := fun e => by rw [e] at nd10; simp at nd10
      have d02 : x0 ≠ x2 := fun e => by rw [e] at nd10; simp at nd10
      have d12 : x1 ≠ x2 := fun e => by rw [e] at nd10; simp at nd10
      have d31 : x3 ≠ x1 := fun e => by rw [e] at nd10; simp at nd10
      simp only [List.nodup_cons, List.mem_cons, List.not_mem_nil, or_false, not_or, List.nodup_nil, and_true, not_false_eq_true]
      exact ⟨⟨d01, d02, nodot_ne n0, nodot_ne n0, nodot_ne n0⟩, ⟨d12, nodot_ne n1, nodot_ne n1, nodot_ne n1⟩, ⟨nodot_ne n2, nodot_ne n2, nodot_ne n2⟩, ⟨dot_ne n0 nz n3 n3 (.inl (Ne.symm zne)), dot_ne n0 nz n3 n1 (.inr d31)⟩, dot_ne nz nz n3 n1 (.inr d31)⟩
    · simp at hx
      rcases hx with rfl | rfl | rfl
      · exact KN _ (by simp)
      · exact znm
      · exact KN _ (by simp)
    · simp at hx ⊢
      rcases hx with rfl | rfl | rfl | rfl | rfl | rfl <;> simp
    · have := N.nd
      have e : [x0, x1, x2, x3, x4, x5, x6, x7, x8, x9, y0, y1, y2, y3, y4, y5, y6, y7, y8, y9] = [x0, x1, x2, x3, x4, x5, x6, x7, x8, x9] ++ ([y0, y1, y2, y3, y4, y5] ++ [y6, y7, y8, y9]) := rfl
      rw [e] at this
      exact (List.nodup_append.mp (List.nodup_append.mp this).2.1).1
  rw [kit_m1, kit_m2]
  refine ⟨_, _, (kit_st _ _ _).1, (kit_st _ _ _).2, ⟨by simp, Nat.le_of_ble_eq_true rfl⟩, ?_⟩
  rw [kit_m3]
  repeat walk_at "ds"
  rw [trim_lo (by omega)]
  obtain ⟨j1, j2, j3⟩ := kit_st2 s4 (.dk _) (.dk _) (.dk _)
  have lb := D4.lt
  exact h _ _ _ _ hp (Kt.mk lb (by simp) (D4.of (j3 b lb)) j1 j2)
end Ds.K06
namespace Ds.K06
open PySem PySem.Spec PyProof.Rows L2 Dn TL
/-- all but the deck and the kit as they were -/
def Fk (b k : Nat) (s s' : St) : Prop := s.length ≤ s'.length ∧ ∀ j, j < s.length → j ≠ b → j ≠ k → s'[j]? = s[j]?
theorem Fr.k {b k : Nat} {s s' : St} (h : Fr b s s') : Fk b k s s' := ⟨h.1, fun j hj hb _ => h.2 j hj hb⟩
theorem Fk.refl (b k : Nat) (s : St) : Fk b k s s := ⟨Nat.le_refl _, fun _ _ _ _ => rfl⟩
theorem Fk.trans {b k : Nat} {s s1 s2 : St} (h : Fk b k s s1) (g : Fk b k s1 s2) : Fk b k s s2 := ⟨Nat.le_trans h.1 g.1, fun j hj hb hk => (g.2 j (Nat.lt_of_lt_of_le hj h.1) hb hk).trans (h.2 j hj hb hk)⟩
theorem Fk.trim {b k : Nat} {c : Cl} {s s' : St} (h : Fk b k s s') : Fk b k s (trim s.length c s') := ⟨trim_ge h.1, fun j hj hb hk => (trim_get hj).trans (h.2 j hj hb hk)⟩
theorem Fk.put {b k l : Nat} {o : Ob} {s0 s : St} (h : Fk b k s0 s) (hl : s0.length ≤ l) : Fk b k s0 (s.set l o) := ⟨by simpa using h.1, fun j hj hb hk => (set_other (by omega)).trans (h.2 j hj hb hk)⟩
theorem Fk.at_ {b k l : Nat} {o : Ob} {s s' : St} (h : Fk b k s s') (q : s[l]? = some o) (hb : l ≠ b) (hk : l ≠ k) : s'[l]? = some o := (h.2 l (lt_of_at q) hb hk).trans q
section
variable {p : KP} {b k q c lf : Nat} {kn : List (Str × Nat × Nat)} {s s' : St}
theorem Kt.lt (h : Kt p b k q c lf kn s) : q < s.length := lt_of_at h.kn
theorem Kt.of (h : Kt p b k q c lf kn s) (w : ∀ j, j ≤ q → s'[j]? = s[j]?) : Kt p b k q c lf kn s' := ⟨h.bk, h.kq, h.dk.of (w b (Nat.le_of_lt (Nat.lt_trans h.bk h.kq))), (w k (Nat.le_of_lt h.kq)).trans h.ki, (w q (Nat.le_refl _)).trans h.kn⟩
theorem Kt.trim {n : Nat} {x : Cl} (h : Kt p b k q c lf kn s) (hn : q < n) : Kt p b k q c lf kn (trim n x s) := h.of fun j hj => trim_get (by omega)
theorem Kt.app {o : Ob} (h : Kt p b k q c lf kn s) : Kt p b k q c lf kn (s ++ [o]) := h.of fun j hj => app_old (Nat.lt_of_le_of_lt hj h.lt)
theorem Kt.put {l : Nat} {o : Ob} (h : Kt p b k q c lf kn s) (hl : q < l) : Kt p b k q c lf kn (s.set l o) := h.of fun j hj => set_other (by omega)
theorem Kt.draw {c' : Nat} (h : Kt p b k q c lf kn s) (d : Dk c' b s') (f : Fr b s s') : Kt p b k q c' lf kn s' := ⟨h.bk, h.kq, d, f.at_ h.ki (by have := h.bk; omega), f.at_ h.kn (by have := h.bk; have := h.kq; omega)⟩
theorem Kt.mono {c' : Nat} (h : Kt p b k q c lf kn s) (hc : c ≤ c') : Kt p b k q c' lf kn s := ⟨h.bk, h.kq, h.dk.mono hc, h.ki, h.kn⟩
end
theorem map_erase {α β : Type} (f : α → β) : ∀ (xs : List α) (n : Nat), (xs.map f).eraseIdx n = (xs.eraseIdx n).map f
  | [], _ => rfl
  | x :: xs, 0 => rfl
  | x :: xs, n + 1 => by
    show f x :: (xs.map f).eraseIdx n = f x :: (xs.eraseIdx n).map f
    rw [map_erase f xs n]
theorem perm_pop {α : Type} {xs : List α} {n : Nat} {x : α} (h : xs[n]? = some x) : (x :: xs.eraseIdx n).Perm xs := by
  induction xs generalizing n with
  | nil => simp at h
  | cons a r ih =>
    cases n with
    | zero => simp at h; subst h; exact List.Perm.refl _
    | succ n =>
      have := ih (n := n) (by simpa using h)
      exact (List.Perm.swap a x _).trans (this.cons a)
end Ds.K06
namespace Ds.K06
open PySem PySem.Spec PyProof.Rows L2 Dn TL
section
variable {p : KP} {b k q c lf : Nat} {kn : List (Str × Nat × Nat)} {s : St} {Q : Cl → St → Prop}
theorem some_ {xs : List Str} (K : Kt p b k q c lf kn s) (hc : c ≤ 900000) (hx : 0 < xs.length ∧ xs.length ≤ 100) (h : ∀ (x : Str) (s' : St), x ∈ xs → Kt p b k q (c + 1) lf kn s' → Fk b k s s' → Q (.sh (.str x)) s') : FRun f__law_some [.lo k, .sh (dStrs xs)] s Q := by
  refine frun_fn rfl ?_
  unfold m__law_some dStrs
  repeat walk_at "ds"
  refine ⟨_, _, _, K.ki, rfl, rfl, ?_⟩
  repeat walk_at "ds"
  rw [List.length_map]
  refine draw K.dk (by omega) (by omega) fun n1 s1 a1 b1 D1 F1 => ?_
  repeat walk_at "ds"
  obtain ⟨x, h1, h2⟩ := atI_lt (xs := xs) a1 b1
  refine ⟨.sh (.str x), ixC_sh ?_, ?_⟩
  · show atI (xs.map PyData.str) n1 = _
    unfold atI ixN at h1 ⊢
    rw [List.length_map]
    rw [if_pos a1, if_pos b1] at h1 ⊢
    simpa using h1
  repeat walk_at "ds"
  exact h x _ h2 ((K.draw D1 F1).trim K.lt) F1.k.trim
theorem someK (K : Kt p b k q c lf kn s) (hc : c ≤ 900000) (hx : 0 < kn.length ∧ kn.length ≤ 100) (h : ∀ (x : Str × Nat × Nat) (s' : St), x ∈ kn → Kt p b k q (c + 1) lf kn s' → Fk b k s s' → Q (.sh (knD x)) s') : FRun f__law_some [.lo k, .lo q] s Q := by
  refine frun_fn rfl ?_
  unfold m__law_some
  repeat walk_at "ds"
  refine ⟨_, _, _, K.ki, rfl, rfl, ?_⟩
  repeat walk_at "ds"
  refine ⟨_, by unfold snaps; rw [snap_list K.kn]; rfl, ?_⟩
  repeat walk_at "ds"
  rw [List.length_map]
  refine draw K.dk (by omega) (by omega) fun n1 s1 a1 b1 D1 F1 => ?_
  repeat walk_at "ds"
  obtain ⟨x, h1, h2⟩ := atI_lt (xs := kn) a1 b1
  have K1 := K.draw D1 F1
  refine ⟨.sh (knD x), ixC_lo K1.kn ?_, ?_⟩
  · unfold atI ixN at h1 ⊢
    rw [List.length_map, List.length_map]
    rw [if_pos a1, if_pos b1] at h1 ⊢
    have h1 : kn[n1.toNat]? = some x := h1
    show ((kn.map knD).map Cl.sh)[n1.toNat]? = _
    rw [List.getElem?_map, List.getElem?_map, h1]
    rfl
  repeat walk_at "ds"
  exact h x _ h2 (K1.trim K.lt) F1.k.trim
theorem unlike {n : Nat} (K : Kt p b k q c lf kn s) (P : KPok p) (hc : c ≤ 900000) (hn : n ≤ 6) (h : ∀ (ys zs : List Str) (s' : St), ys.length = n → (ys ++ zs).Perm p.B → Kt p b k q (c + 6) lf kn s' → Fk b k s s' → Q (.sh (.tuple (ys.map PyData.str))) s') : FRun f__law_unlike [.lo k, .sh (.int n)] s Q := by
  refine frun_fn rfl ?_
  unfold m__law_unlike
  repeat walk_at "ds"
  refine ⟨_, _, _, K.ki, rfl, rfl, ?_⟩
  repeat walk_at "ds"
  refine ⟨_, _, rfl, rfl, ?_⟩
  repeat walk_at "ds"
  have b6 := P.b6
  have ql := K.lt
  refine ⟨by rw [rngD_length]; exact line_of (by omega), ?_⟩
  refine run_compL _ (fun i ys e s' => ∃ (ts zs : List Str), ys = ts.map PyData.str ∧ ts.length = i ∧ (ts ++ zs).Perm p.B ∧ Kt p b k q (c + i) lf kn s' ∧ Fk b k s s' ∧ s'[s.length]? = some (.lst ((zs.map PyData.str).map Cl.sh)) ∧ e = [.lo k, .sh (.int n), .lo s.length, .no]) ?_ (fun i d ys e s' hd hJ => ?_) fun ys e s' hJ => ?_
  · exact ⟨[], p.B, rfl, rfl, List.Perm.refl _, K.app, Fr.app.k, app_new, rfl⟩
  · obtain ⟨ts, zs, rfl, e2, e3, K1, F1, at1, rfl⟩ := hJ
    obtain ⟨rfl, hi⟩ := rngD_at hd
    refine ⟨_, rfl, ?_⟩
    repeat walk_at "ds"
    refine ⟨_, at1, ?_⟩
    repeat walk_at "ds"
    refine ⟨_, _, _, K1.ki, rfl, rfl, ?_⟩
    repeat walk_at "ds"
    refine ⟨_, by unfold snaps; rw [snap_list at1]; rfl, ?_⟩
    repeat walk_at "ds"
    have el := e3.length_eq
    rw [List.length_append] at el
    rw [List.length_map]
    refine draw K1.dk (by omega) (by omega) fun n1 s2 a1 b1 D2 F2 => ?_
    repeat walk_at "ds"
    have K2 := K1.draw D2 F2
    have at2 := F2.at_ at1 (by have := K.bk; have := K.kq; omega)
    obtain ⟨x, h1, h2⟩ := atI_lt (xs := zs) a1 b1
    unfold atI ixN at h1
    rw [if_pos a1, if_pos b1] at h1
    have h1 : zs[n1.toNat]? = some x := h1
    refine ⟨_, n1, .sh (.str x), at2, rfl, ⟨a1, by simpa using b1, line_of (by simp; omega)⟩, by simp [h1], ?_⟩
    repeat walk_at "ds"
    refine ⟨ts ++ [x], zs.eraseIdx n1.toNat, by simp, by simp [e2], ?_, K2.put ql, (F1.trans F2.k).put (Nat.le_refl _), ?_, rfl⟩
    · rw [List.append_assoc]
      exact ((perm_pop h1).append_left ts).trans e3
    · rw [set_same (lt_of_at at2), map_erase, map_erase]
  · obtain ⟨ts, zs, rfl, e2, e3, K1, F1, at1, rfl⟩ := hJ
    rw [rngD_length] at e2 K1
    repeat walk_at "ds"
    refine ⟨_, shL_map _, ?_⟩
    repeat walk_at "ds"
    exact h ts zs _ (by omega) e3 ((K1.mono (by omega)).trim ql) F1.trim
end
end Ds.K06
namespace Ds.K06
open PySem PySem.Spec PyProof.Rows L2 Dn TL
theorem Kt.left {p : KP} {b k q c lf lf2 : Nat} {kn : List (Str × Nat × Nat)} {s : St} {x : Int} (h : Kt p b k q c lf kn s) (e : x = lf2) : Kt p b k q c lf2 kn (s.set k (.dk (putC (kvs p b q lf) (Sum.inr (Str.ofString "left")) (Cl.sh (.int x))))) := by
  subst e
  have hb := h.bk
  have hq := h.kq
  exact ⟨hb, hq, h.dk.of (set_other (by omega)), set_same (lt_of_at h.ki), (set_other (by omega)).trans h.kn⟩
theorem Fk.kit {b k : Nat} {o : Ob} {s0 s : St} (h : Fk b k s0 s) : Fk b k s0 (s.set k o) := ⟨by simpa using h.1, fun j hj hb hk => (set_other hk).trans (h.2 j hj hb hk)⟩
/-- things in a row, each with its number of words and its boxes -/
inductive SumL (P : Nat → List Str → D → Prop) : Nat → List Str → List D → Prop where
  | nil : SumL P 0 [] []
  | cons {k m : Nat} {L L' : List Str} {w : D} {ws : List D} : P k L w → SumL P m L' ws → SumL P (k + m) (L ++ L') (w :: ws)
theorem SumL.snoc {P : Nat → List Str → D → Prop} {k m : Nat} {L L' : List Str} {w : D} {ws : List D} (h : SumL P m L ws) (r : P k L' w) : SumL P (m + k) (L ++ L') (ws ++ [w]) := by
  induction h with
  | nil =>
    have := SumL.cons r SumL.nil
    simpa using this
  | cons a b ih =>
    have := SumL.cons a ih
    rw [← Nat.add_assoc, ← List.append_assoc] at this
    exact this
def Sub (p : KP) (bs : List Str) : Prop := ∃ zs, (bs ++ zs).Perm p.B
theorem Sub.mem {p : KP} {bs : List Str} (h : Sub p bs) : ∀ x ∈ bs, x ∈ p.B := fun x hx => by
  obtain ⟨zs, h⟩ := h
  exact h.mem_iff.mp (List.mem_append_left _ hx)
inductive Leaf (p : KP) (kn : List (Str × Nat × Nat)) (lo : Int) : List Str → D → Prop where
  | bx {k : Str} {bs : List Str} : (k, bs.length) ∈ ([("ask", 1), ("copy", 2), ("mix", 3), ("open", 2), ("tell", 1), ("wipe", 1)] : List (Str × Nat)) → (∀ x ∈ bs, x ∈ p.B) → Leaf p kn lo bs (.tuple (.str k :: bs.map PyData.str))
  | take {x w : Str} : x ∈ p.B → w ∈ p.W → Leaf p kn lo [x] (.tuple [.str "take", .str x, .str w])
  | number {x : Str} {i : Int} : x ∈ p.B → 0 ≤ i ∧ i ≤ 9999 → Leaf p kn lo [x] (.tuple [.str "number", .str x, .int i])
  | clear {x : Str} : x ∈ p.R → Leaf p kn lo [] (.tuple [.str "clear", .str x])
  | risk {x : Str} : x ∈ p.W → Leaf p kn lo [] (.tuple [.str "risk", .str x])
  | fault {x : Str} : x ∈ p.W → Leaf p kn lo [] (.tuple [.str "fault", .str x])
  | back : Leaf p kn lo [] (.tuple [.str "back"])
  | out {i : Int} : 1 ≤ i ∧ i ≤ lo → Leaf p kn lo [] (.tuple [.str "out", .int i])
  | drop {bs : List Str} : 1 ≤ bs.length ∧ bs.length ≤ 3 → Sub p bs → Leaf p kn lo bs (.tuple [.str "drop", .tuple (bs.map PyData.str)])
  | call {x : Str} {as gs : List Str} : (x, as.length, gs.length) ∈ kn → Sub p as → Sub p gs → Leaf p kn lo (as ++ gs) (.tuple [.str "call", .str x, .tuple (as.map PyData.str), .tuple (gs.map PyData.str)])
def Rwf (P : Nat → List Str → D → Prop) (k : Nat) (L : List Str) (d : D) : Prop := ∃ ws, d = .tuple ws ∧ SumL P k L ws
/-- a word, n rows deep at most, with so many loops around; m words in all, L its boxes -/
def Wd (p : KP) (kn : List (Str × Nat × Nat)) : Nat → Int → Nat → List Str → D → Prop
  | 0, lo, m, L, w => m = 1 ∧ Leaf p kn lo L w
  | n + 1, lo, m, L, w => (m = 1 ∧ Leaf p kn lo L w) ∨ (∃ k d, m = k + 1 ∧ w = .tuple [.str "loop", d] ∧ Rwf (Wd p kn n (lo + 1)) k L d) ∨
    (∃ k rs, m = k + 1 ∧ w = .tuple [.str "choose", .tuple rs] ∧ (1 ≤ rs.length ∧ rs.length ≤ 4) ∧ SumL (Rwf (Wd p kn n lo)) k L rs)
abbrev Rw (p : KP) (kn : List (Str × Nat × Nat)) (n : Nat) (lo : Int) (m : Nat) (L : List Str) (d : D) : Prop := Rwf (Wd p kn n lo) m L d
theorem Wd.leaf {p : KP} {kn : List (Str × Nat × Nat)} {n : Nat} {lo : Int} {L : List Str} {w : D} (h : Leaf p kn lo L w) : Wd p kn n lo 1 L w := by
  cases n with
  | zero => exact ⟨rfl, h⟩
  | succ n => exact .inl ⟨rfl, h⟩
structure Knok (kn : List (Str × Nat × Nat)) : Prop where
  len : kn.length ≤ 6
  w : ∀ x ∈ kn, x.2.1 ≤ 4 ∧ x.2.2 ≤ 4
  ok : ∀ x ∈ kn, Ok 20 x.1
def RowS (F : Fn) (n : Nat) : Prop := ∀ {p : KP} {b k q c lf : Nat} {kn : List (Str × Nat × Nat)} {s : St} {Q : Cl → St → Prop} (dp w lo : Int), Kt p b k q c lf kn s → KPok p → Knok kn → c + 30 * lf ≤ 800000 → dp + n = 4 → 0 ≤ dp → 0 ≤ w ∧ w ≤ 12 → 0 ≤ lo ∧ lo ≤ 4 - n →
  (∀ (d : D) (m : Nat) (L : List Str) (c' lf' : Nat) (s' : St), Rw p kn n lo m L d → Kt p b k q c' lf' kn s' → c' + 30 * lf' ≤ c + 30 * lf → m + lf' = lf → Fk b k s s' → Q (.sh d) s') → FRun F [.lo k, .sh (.int dp), .sh (.int w), .sh (.int lo)] s Q
def WordS (F : Fn) (n : Nat) : Prop := ∀ {p : KP} {b k q c lf : Nat} {kn : List (Str × Nat × Nat)} {s : St} {Q : Cl → St → Prop} (dp lo way : Int), Kt p b k q c lf kn s → KPok p → Knok kn → c + 30 * lf ≤ 799971 → dp + n = 4 → 0 ≤ dp → 0 ≤ way ∧ way < 20 → 0 ≤ lo ∧ lo ≤ 4 - n →
  (∀ (d : D) (m : Nat) (L : List Str) (c' lf' : Nat) (s' : St), Wd p kn n lo m L d → Kt p b k q c' lf' kn s' → c' + 30 * lf' ≤ c + 28 + 30 * lf → m + lf' = lf + 1 → Fk b k s s' → Q (.sh d) s') → FRun F [.lo k, .sh (.int dp), .sh (.int lo), .sh (.int way)] s Q
end Ds.K06
namespace Ds.K06
open PySem PySem.Spec PyProof.Rows L2 Dn TL
theorem grow_s {r : Nat → Fn} {n : Nat} (H : WordS (r 1) n) : RowS (fnF 4 6 (m__law_row r)) n := by
  intro p b k q c lf kn s Q dp w lo K P N hc hn hd_ hw hlo h
  refine frun_fn rfl ?_
  unfold m__law_row
  repeat walk_at "ds"
  refine run_forL _ (fun i e s' => ∃ (c' lf' m : Nat) (L : List Str) (ws : List D) (z : Cl), SumL (Wd p kn n lo) m L ws ∧ ws.length ≤ i ∧ Kt p b k q c' lf' kn s' ∧ c' + 30 * lf' ≤ c + 30 * lf ∧ m + lf' = lf ∧ Fk b k s s' ∧ e = [.lo k, .sh (.int dp), .sh (.int w), .sh (.int lo), .sh (.tuple ws), z]) ?_ (fun i d e s' hd hI => ?_) fun e s' hI => ?_
  · exact ⟨c, lf, 0, [], [], _, .nil, by simp, K, by omega, by omega, Fk.refl _ _ _, rfl⟩
  · obtain ⟨c1, l1, m, L, ws, z, S, hl, K1, e1, e2, F1, rfl⟩ := hI
    obtain ⟨rfl, hi⟩ := rngD_at hd
    refine ⟨_, rfl, ?_⟩
    repeat walk_at "ds"
    refine ⟨_, _, _, K1.ki, rfl, rfl, ?_⟩
    repeat walk_at "ds"
    refine two_dec (fun h1 => ?_) (fun h1 => ?_)
    · repeat walk_at "ds"
      refine ⟨_, _, _, K1.ki, rfl, rfl, ?_⟩
      repeat walk_at "ds"
      refine ⟨_, _, K1.ki, rfl, Nat.le_of_ble_eq_true rfl, ?_⟩
      have K2 := K1.left (lf2 := l1 - 1) (x := (l1 : Int) - 1) (by omega)
      have F2 := F1.kit (o := .dk (putC (kvs p b q l1) (Sum.inr (Str.ofString "left")) (Cl.sh (.int ((l1 : Int) - 1)))))
      repeat walk_at "ds"
      refine ⟨_, _, _, K2.ki, rfl, rfl, ?_⟩
      repeat walk_at "ds"
      refine draw K2.dk (by omega) (by omega) fun n1 s2 a1 b1 D3 F3 => ?_
      repeat walk_at "ds"
      refine H dp lo n1 (K2.draw D3 F3) P N (by omega) hn hd_ ⟨a1, b1⟩ hlo fun d m2 L2 c2 l2 s3 S2 K4 e3 e4 F4 => ?_
      repeat walk_at "ds"
      refine bx_add_tup (line_of (by simp; omega)) ?_
      refine turn_nx ?_
      refine ⟨c2, l2, m + m2, _, _, _, S.snoc S2, by simp; omega, K4, by omega, by omega, F2.trans (F3.k.trans F4), rfl⟩
    · repeat walk_at "ds"
      exact ⟨c1, l1, m, L, ws, _, S, by omega, K1, e1, e2, F1, rfl⟩
  · obtain ⟨c1, l1, m, L, ws, z, S, hl, K1, e1, e2, F1, rfl⟩ := hI
    refine seq_nx ?_
    repeat walk_at "ds"
    exact h _ m L c1 l1 _ ⟨ws, rfl, S⟩ (K1.trim K.lt) e1 e2 F1.trim
end Ds.K06
namespace Ds.K06
open PySem PySem.Spec PyProof.Rows L2 Dn TL
def mw_rest3 (r : Nat → Fn) : M Fl := (mSeq (mIfS (mTest (mBin dEq (mVar 3) (mC (PyData.int 18)))) (mSeq (mSet 8 (mSh (mFr (mComp (mRng1 (mBin dAdd (mC (PyData.int 1)) (mD (mCall f__law_draw [(mLo (mL (mDGet (mLV 0) (mC (PyData.str "deck"))))), (mSh (mC (PyData.int 4)))])))) [9] (mgName 9) mYes (mD (mCall (r 0) [(mLo (mLV 0)), (mSh (mBin dAdd (mVar 1) (mC (PyData.int 1)))), (mSh (mD (mCall f__law_draw [(mLo (mL (mDGet (mLV 0) (mC (PyData.str "deck"))))), (mSh (mC (PyData.int 3)))]))), (mSh (mVar 2))]))))))
  (mRet (mSh (mTup [(mSh (mC (PyData.str "choose"))), (mSh (mCallB bTuple [(mSh (mVar 8))]))])))) mNx)
  (mRet (mSh (mTup [(mSh (mC (PyData.str "loop"))), (mSh (mD (mCall (r 0) [(mLo (mLV 0)), (mSh (mBin dAdd (mVar 1) (mC (PyData.int 1)))), (mSh (mBin dAdd (mC (PyData.int 1)) (mD (mCall f__law_draw [(mLo (mL (mDGet (mLV 0) (mC (PyData.str "deck"))))), (mSh (mC (PyData.int 3)))])))), (mSh (mBin dAdd (mVar 2) (mC (PyData.int 1))))])))]))))
def mw_rest2 (r : Nat → Fn) : M Fl := (mSeq (mIfS (mAndT (mTest (mBin dLt (mVar 3) (mC (PyData.int 18)))) (mTest (mBinC dNe (mLo (mL (mDGet (mLV 0) (mC (PyData.str "known"))))) (mSh (mLst []))))) (mSeq (mAsg (mgTup 3 (mgCons (mgName 10) (mgCons (mgName 11) (mgCons (mgName 12) mgNil)))) (mSh (mD (mCall f__law_some [(mLo (mLV 0)), (mLo (mL (mDGet (mLV 0) (mC (PyData.str "known")))))]))))
  (mRet (mSh (mTup [(mSh (mC (PyData.str "call"))), (mSh (mVar 10)), (mSh (mD (mCall f__law_unlike [(mLo (mLV 0)), (mSh (mVar 11))]))), (mSh (mD (mCall f__law_unlike [(mLo (mLV 0)), (mSh (mVar 12))])))])))) mNx)
  (mSeq (mIfS (mTest (mBin dEq (mVar 3) (mC (PyData.int 18)))) (mSeq (mSet 8 (mSh (mFr (mComp (mRng1 (mBin dAdd (mC (PyData.int 1)) (mD (mCall f__law_draw [(mLo (mL (mDGet (mLV 0) (mC (PyData.str "deck"))))), (mSh (mC (PyData.int 4)))])))) [9] (mgName 9) mYes (mD (mCall (r 0) [(mLo (mLV 0)), (mSh (mBin dAdd (mVar 1) (mC (PyData.int 1)))), (mSh (mD (mCall f__law_draw [(mLo (mL (mDGet (mLV 0) (mC (PyData.str "deck"))))), (mSh (mC (PyData.int 3)))]))), (mSh (mVar 2))]))))))
  (mRet (mSh (mTup [(mSh (mC (PyData.str "choose"))), (mSh (mCallB bTuple [(mSh (mVar 8))]))])))) mNx)
  (mRet (mSh (mTup [(mSh (mC (PyData.str "loop"))), (mSh (mD (mCall (r 0) [(mLo (mLV 0)), (mSh (mBin dAdd (mVar 1) (mC (PyData.int 1)))), (mSh (mBin dAdd (mC (PyData.int 1)) (mD (mCall f__law_draw [(mLo (mL (mDGet (mLV 0) (mC (PyData.str "deck"))))), (mSh (mC (PyData.int 3)))])))), (mSh (mBin dAdd (mVar 2) (mC (PyData.int 1))))])))])))))
def mw_rest1 (r : Nat → Fn) : M Fl := (mSeq (mIfS (mAndT (mTest (mBin dEq (mVar 3) (mC (PyData.int 14)))) (mTest (mBin dGt (mVar 2) (mC (PyData.int 0))))) (mRet (mSh (mTup [(mSh (mC (PyData.str "out"))), (mSh (mBin dAdd (mC (PyData.int 1)) (mD (mCall f__law_draw [(mLo (mL (mDGet (mLV 0) (mC (PyData.str "deck"))))), (mSh (mVar 2))]))))]))) mNx)
  (mSeq (mIfS (mAndT (mTest (mBin dLt (mVar 3) (mC (PyData.int 18)))) (mTest (mBinC dNe (mLo (mL (mDGet (mLV 0) (mC (PyData.str "known"))))) (mSh (mLst []))))) (mSeq (mAsg (mgTup 3 (mgCons (mgName 10) (mgCons (mgName 11) (mgCons (mgName 12) mgNil)))) (mSh (mD (mCall f__law_some [(mLo (mLV 0)), (mLo (mL (mDGet (mLV 0) (mC (PyData.str "known")))))]))))
  (mRet (mSh (mTup [(mSh (mC (PyData.str "call"))), (mSh (mVar 10)), (mSh (mD (mCall f__law_unlike [(mLo (mLV 0)), (mSh (mVar 11))]))), (mSh (mD (mCall f__law_unlike [(mLo (mLV 0)), (mSh (mVar 12))])))])))) mNx)
  (mSeq (mIfS (mTest (mBin dEq (mVar 3) (mC (PyData.int 18)))) (mSeq (mSet 8 (mSh (mFr (mComp (mRng1 (mBin dAdd (mC (PyData.int 1)) (mD (mCall f__law_draw [(mLo (mL (mDGet (mLV 0) (mC (PyData.str "deck"))))), (mSh (mC (PyData.int 4)))])))) [9] (mgName 9) mYes (mD (mCall (r 0) [(mLo (mLV 0)), (mSh (mBin dAdd (mVar 1) (mC (PyData.int 1)))), (mSh (mD (mCall f__law_draw [(mLo (mL (mDGet (mLV 0) (mC (PyData.str "deck"))))), (mSh (mC (PyData.int 3)))]))), (mSh (mVar 2))]))))))
  (mRet (mSh (mTup [(mSh (mC (PyData.str "choose"))), (mSh (mCallB bTuple [(mSh (mVar 8))]))])))) mNx)
  (mRet (mSh (mTup [(mSh (mC (PyData.str "loop"))), (mSh (mD (mCall (r 0) [(mLo (mLV 0)), (mSh (mBin dAdd (mVar 1) (mC (PyData.int 1)))), (mSh (mBin dAdd (mC (PyData.int 1)) (mD (mCall f__law_draw [(mLo (mL (mDGet (mLV 0) (mC (PyData.str "deck"))))), (mSh (mC (PyData.int 3)))])))), (mSh (mBin dAdd (mVar 2) (mC (PyData.int 1))))])))]))))))
theorem rest3 {r : Nat → Fn} {n : Nat} (H : RowS (r 0) n) {p : KP} {b k q c C lf : Nat} {kn : List (Str × Nat × Nat)} {s s0 : St} {Q : Fl → Ev → St → Prop} {dp lo way : Int} {c4 c5 c6 c7 c8 c9 c10 c11 c12 : Cl} (K : Kt p b k q c lf kn s) (P : KPok p) (N : Knok kn) (hc : C + 30 * lf ≤ 800000) (hC : c + 20 ≤ C) (hn : dp + n = 3) (hd : 0 ≤ dp) (hw : 13 ≤ way ∧ way < 20) (hlo : 0 ≤ lo ∧ lo ≤ 3 - n) (F0 : Fk b k s0 s)
    (h : ∀ (d : D) (m : Nat) (L : List Str) (c' lf' : Nat) (s' : St) (e' : Ev), Wd p kn (n + 1) lo m L d → Kt p b k q c' lf' kn s' → c' + 30 * lf' ≤ C + 30 * lf → m + lf' = lf + 1 → Fk b k s0 s' → Q (.rt (.sh d)) e' s') :
    Run (mw_rest3 r) [.lo k, .sh (.int dp), .sh (.int lo), .sh (.int way), c4, c5, c6, c7, c8, c9, c10, c11, c12] s Q := by
  have B6 := P.b6
  have ql := K.lt
  unfold mw_rest3
  repeat walk_at "ds"
  refine two_dec (fun h1 => ?_) (fun h1 => ?_)
  · repeat walk_at "ds"
    refine ⟨_, _, _, Kt.ki K, rfl, rfl, ?_⟩
    repeat walk_at "ds"
    refine draw K.dk (by omega) (by omega) fun n1 s1 a1 b1 D1 F1 => ?_
    repeat walk_at "ds"
    have K1 := K.draw D1 F1
    refine ⟨by rw [rngD_length]; exact line_of (by omega), ?_⟩
    refine run_compL _ (fun i ys e s' => ∃ (m : Nat) (L : List Str) (c' lf' : Nat), SumL (Rwf (Wd p kn n lo)) m L ys ∧ ys.length = i ∧ Kt p b k q c' lf' kn s' ∧ c' + 30 * lf' ≤ c + 1 + i + 30 * lf ∧ m + lf' = lf ∧ Fk b k s0 s' ∧ e = [.lo k, .sh (.int dp), .sh (.int lo), .sh (.int way), c4, c5, c6, c7, c8, .no, c10, c11, c12]) ?_ (fun i d ys e s' hd hJ => ?_) fun ys e s' hJ => ?_
    · exact ⟨0, [], _, lf, .nil, rfl, K1, by omega, by omega, F0.trans F1.k, rfl⟩
    · obtain ⟨m, L, c2, l2, S, e1, K2, e2, e3, F2, rfl⟩ := hJ
      obtain ⟨rfl, hi⟩ := rngD_at hd
      refine ⟨_, rfl, ?_⟩
      repeat walk_at "ds"
      refine ⟨_, _, _, Kt.ki K2, rfl, rfl, ?_⟩
      repeat walk_at "ds"
      refine draw K2.dk (by omega) (by omega) fun n2 s3 a2 b2 D3 F3 => ?_
      repeat walk_at "ds"
      refine H (dp + 1) n2 lo (K2.draw D3 F3) P N (by omega) (by omega) (by omega) (by omega) (by omega) fun d m3 L3 c3 l3 s4 S3 K4 e4 e5 F4 => ?_
      repeat walk_at "ds"
      exact ⟨m + m3, _, c3, l3, S.snoc S3, by simp [e1], K4, by omega, by omega, F2.trans (F3.k.trans F4), rfl⟩
    obtain ⟨m, L, c2, l2, S, e1, K2, e2, e3, F2, rfl⟩ := hJ
    rw [rngD_length] at e1 e2
    refine ⟨ys, shL_map ys, ?_⟩
    repeat walk_at "ds"
    exact h _ (m + 1) L c2 l2 _ _ (.inr (.inr ⟨m, ys, rfl, rfl, by omega, S⟩)) K2 (by omega) (by omega) F2
  · repeat walk_at "ds"
    refine ⟨_, _, _, Kt.ki K, rfl, rfl, ?_⟩
    repeat walk_at "ds"
    refine draw K.dk (by omega) (by omega) fun n1 s1 a1 b1 D1 F1 => ?_
    repeat walk_at "ds"
    refine H (dp + 1) (1 + n1) (lo + 1) (K.draw D1 F1) P N (by omega) (by omega) (by omega) (by omega) (by omega) fun d m3 L3 c3 l3 s4 S3 K4 e4 e5 F4 => ?_
    repeat walk_at "ds"
    exact h _ (m3 + 1) L3 c3 l3 _ _ (.inr (.inl ⟨m3, d, rfl, rfl, S3⟩)) K4 (by omega) (by omega) (F0.trans (F1.k.trans F4))
theorem rest2 {r : Nat → Fn} {n : Nat} (H : RowS (r 0) n) {p : KP} {b k q c C lf : Nat} {kn : List (Str × Nat × Nat)} {s s0 : St} {Q : Fl → Ev → St → Prop} {dp lo way : Int} {c4 c5 c6 c7 c8 c9 c10 c11 c12 : Cl} (K : Kt p b k q c lf kn s) (P : KPok p) (N : Knok kn) (hc : C + 30 * lf ≤ 800000) (hC : c + 20 ≤ C) (hn : dp + n = 3) (hd : 0 ≤ dp) (hw : 13 ≤ way ∧ way < 20) (hlo : 0 ≤ lo ∧ lo ≤ 3 - n) (F0 : Fk b k s0 s)
    (h : ∀ (d : D) (m : Nat) (L : List Str) (c' lf' : Nat) (s' : St) (e' : Ev), Wd p kn (n + 1) lo m L d → Kt p b k q c' lf' kn s' → c' + 30 * lf' ≤ C + 30 * lf → m + lf' = lf + 1 → Fk b k s0 s' → Q (.rt (.sh d)) e' s') :
    Run (mw_rest2 r) [.lo k, .sh (.int dp), .sh (.int lo), .sh (.int way), c4, c5, c6, c7, c8, c9, c10, c11, c12] s Q := by
  have B6 := P.b6
  have ql := K.lt
  unfold mw_rest2
  repeat walk_at "ds"
  refine two_dec (fun h1 => ?_) (fun h1 => ?_)
  · repeat walk_at "ds"
    refine ⟨_, _, _, Kt.ki K, rfl, rfl, ?_⟩
    repeat walk_at "ds"
    refine ⟨_, _, snap_list K.kn, rfl, ?_⟩
    refine bx_ne (.inl rfl) (Sh.ok (n := 2) (Sh.lst fun d hd => ?_)) rfl ?_
    · obtain ⟨x, hx, rfl⟩ := List.mem_map.mp hd
      refine Sh.tup fun d hd => ?_
      simp at hd
      rcases hd with rfl | rfl | rfl
      · exact Sh.str (N.ok x hx)
      · exact Sh.int
      · exact Sh.int
    rw [eqv_nil]
    repeat walk_at "ds"
    have key : (kn.map knD).isEmpty = true ∨ (kn.map knD).isEmpty = false := by cases (kn.map knD).isEmpty <;> simp
    rcases key with z | z <;> rw [z]
    · refine two_T ?_
      refine run_nx ?_
      refine seq_nx ?_
      exact rest3 H K P N hc hC hn hd hw hlo F0 h
    · refine two_F ?_
      repeat walk_at "ds"
      refine ⟨_, _, _, Kt.ki K, rfl, rfl, ?_⟩
      repeat walk_at "ds"
      have kl : 0 < kn.length := by
        cases kn with
        | nil => simp at z
        | cons a r => simp
      refine someK K (by omega) ⟨kl, Nat.le_trans N.len (by decide)⟩ fun x s1 hx K1 F1 => ?_
      have xw := N.w x hx
      repeat walk_at "ds"
      refine unlike K1 P (by omega) (by omega) fun ys zs s2 g1 g2 K2 F2 => ?_
      repeat walk_at "ds"
      refine unlike K2 P (by omega) (by omega) fun ys' zs' s3 g1' g2' K3 F3 => ?_
      repeat walk_at "ds"
      exact h _ 1 _ _ _ _ _ (Wd.leaf (.call (x := x.1) (by rw [g1, g1']; exact hx) ⟨zs, g2⟩ ⟨zs', g2'⟩)) K3 (by omega) (by omega) (F0.trans (F1.trans (F2.trans F3)))
  · refine two_F ?_
    refine run_nx ?_
    refine seq_nx ?_
    exact rest3 H K P N hc hC hn hd hw hlo F0 h
theorem rest1 {r : Nat → Fn} {n : Nat} (H : RowS (r 0) n) {p : KP} {b k q c C lf : Nat} {kn : List (Str × Nat × Nat)} {s s0 : St} {Q : Fl → Ev → St → Prop} {dp lo way : Int} {c4 c5 c6 c7 c8 c9 c10 c11 c12 : Cl} (K : Kt p b k q c lf kn s) (P : KPok p) (N : Knok kn) (hc : C + 30 * lf ≤ 800000) (hC : c + 20 ≤ C) (hn : dp + n = 3) (hd : 0 ≤ dp) (hw : 13 ≤ way ∧ way < 20) (hlo : 0 ≤ lo ∧ lo ≤ 3 - n) (F0 : Fk b k s0 s)
    (h : ∀ (d : D) (m : Nat) (L : List Str) (c' lf' : Nat) (s' : St) (e' : Ev), Wd p kn (n + 1) lo m L d → Kt p b k q c' lf' kn s' → c' + 30 * lf' ≤ C + 30 * lf → m + lf' = lf + 1 → Fk b k s0 s' → Q (.rt (.sh d)) e' s') :
    Run (mw_rest1 r) [.lo k, .sh (.int dp), .sh (.int lo), .sh (.int way), c4, c5, c6, c7, c8, c9, c10, c11, c12] s Q := by
  have B6 := P.b6
  have ql := K.lt
  unfold mw_rest1
  repeat walk_at "ds"
  refine two_dec (fun h1 => ?_) (fun h1 => ?_)
  · repeat walk_at "ds"
    refine two_dec (fun h2 => ?_) (fun h2 => ?_)
    · repeat walk_at "ds"
      refine ⟨_, _, _, Kt.ki K, rfl, rfl, ?_⟩
      repeat walk_at "ds"
      refine draw K.dk (by omega) (by omega) fun n1 s2 a1 b1 D2 F2 => ?_
      repeat walk_at "ds"
      exact h _ 1 [] _ _ _ _ (Wd.leaf (.out (by omega))) (K.draw D2 F2) (by omega) (by omega) (F0.trans F2.k)
    · refine run_nx ?_
      refine seq_nx ?_
      exact rest2 H K P N hc hC hn hd hw hlo F0 h
  · refine two_F ?_
    refine run_nx ?_
    refine seq_nx ?_
    exact rest2 H K P N hc hC hn hd hw hlo F0 h
theorem gword_s {r : Nat → Fn} {n : Nat} (H : ∀ n', n = n' + 1 → RowS (r 0) n') : WordS (fnF 4 13 (m__law_word r)) n := by
  intro p b k q c lf kn s Q dp lo way K P N hc hn hd_ hw hlo h
  have ql := K.lt
  have B6 := P.b6
  have R3 := P.r3
  have W4 := P.w4
  have fin : ∀ (w : D) (L : List Str) (c' : Nat) (s' : St), Leaf p kn lo L w → Kt p b k q c' lf kn s' → c' ≤ c + 28 → Fk b k s s' → Q (.sh w) (trim s.length (.sh w) s') := fun w L c' s' l K' e F =>
    h w 1 L c' lf _ (Wd.leaf l) (K'.trim ql) (by omega) (by omega) F.trim
  refine frun_fn rfl ?_
  unfold m__law_word
  repeat walk_at "ds"
  refine run_compL _ (fun i ys e s' => ∃ ts : List Str, ys = ts.map PyData.str ∧ ts.length = i ∧ (∀ x ∈ ts, x ∈ p.B) ∧ Kt p b k q (c + i) lf kn s' ∧ Fk b k s s' ∧ e = [.lo k, .sh (.int dp), .sh (.int lo), .sh (.int way), .no, .no, .no, .no, .no, .no, .no, .no, .no]) ?_ (fun i d ys e s' hd hJ => ?_) fun ys e s' hJ => ?_
  · exact ⟨[], rfl, rfl, by simp, K, Fk.refl _ _ _, rfl⟩
  · obtain ⟨ts, rfl, e2, e3, K1, F1, rfl⟩ := hJ
    obtain ⟨rfl, hi⟩ := rngD_at hd
    refine ⟨_, rfl, ?_⟩
    repeat walk_at "ds"
    refine ⟨_, _, _, Kt.ki K1, rfl, rfl, ?_⟩
    repeat walk_at "ds"
    repeat walk_at "ds"
    refine some_ K1 (by omega) (by omega) fun x s2 hx K2 F2 => ?_
    repeat walk_at "ds"
    refine ⟨ts ++ [x], by simp, by simp [e2], fun y hy => ?_, K2, F1.trans F2, rfl⟩
    rcases List.mem_append.mp hy with z | z
    · exact e3 y z
    · simp at z; subst z; exact hx
  obtain ⟨ts, rfl, e2, e3, K1, F1, rfl⟩ := hJ
  rw [rngD_length] at e2 K1
  obtain ⟨x, y, z, rfl⟩ : ∃ x y z, ts = [x, y, z] := by
    match ts, e2 with
    | [x, y, z], _ => exact ⟨_, _, _, rfl⟩
  have hx := e3 x (by simp)
  have hy := e3 y (by simp)
  have hz := e3 z (by simp)
  clear e3 e2
  repeat walk_at "ds"
  refine two_dec (fun h1 => ?_) (fun h1 => ?_)
  · repeat walk_at "ds"
    refine two_dec (fun h2 => ?_) (fun h2 => ?_)
    · repeat walk_at "ds"
      refine ⟨_, _, _, Kt.ki K1, rfl, rfl, ?_⟩
      repeat walk_at "ds"
      repeat walk_at "ds"
      refine some_ K1 (by omega) (by omega) fun u s2 hu K2 F2 => ?_
      repeat walk_at "ds"
      exact fin _ _ _ _ (.take hx hu) K2 (by omega) (F1.trans F2)
    · repeat walk_at "ds"
      exact fin _ [x] _ _ (.bx (k := "ask") (bs := [x]) (by simp) (by simpa using hx)) K1 (by omega) F1
  repeat walk_at "ds"
  refine two_dec (fun h2 => ?_) (fun h2 => ?_)
  · repeat walk_at "ds"
    refine two_dec (fun h3 => ?_) (fun h3 => ?_)
    · repeat walk_at "ds"
      refine two_dec (fun h4 => by exfalso; omega) (fun h4 => ?_)
      repeat walk_at "ds"
      exact fin _ [x] _ _ (.bx (k := "ask") (bs := [x]) (by simp) (by simpa using hx)) K1 (by omega) F1
    obtain ⟨n, rfl⟩ : ∃ n', n = n' + 1 := ⟨n - 1, by omega⟩
    have H : RowS (r 0) n := @H n rfl
    repeat walk_at "ds"
    refine two_dec (fun h4 => by exfalso; omega) (fun h4 => ?_)
    repeat walk_at "ds"
    refine two_dec (fun h4 => by exfalso; omega) (fun h4 => ?_)
    repeat walk_at "ds"
    refine two_dec (fun h4 => by exfalso; omega) (fun h4 => ?_)
    repeat walk_at "ds"
    refine two_dec (fun h4 => by exfalso; omega) (fun h4 => ?_)
    repeat walk_at "ds"
    refine two_dec (fun h5 => ?_) (fun h5 => ?_)
    · repeat walk_at "ds"
      refine ⟨_, _, _, Kt.ki K1, rfl, rfl, ?_⟩
      repeat walk_at "ds"
      refine draw K1.dk (by omega) (by omega) fun n1 s2 a1 b1 D2 F2 => ?_
      repeat walk_at "ds"
      have K2 := K1.draw D2 F2
      refine two_dec (fun h6 => ?_) (fun h6 => ?_)
      · repeat walk_at "ds"
        refine ⟨_, _, _, Kt.ki K2, rfl, rfl, ?_⟩
        repeat walk_at "ds"
        refine some_ K2 (by omega) (by omega) fun u s3 hu K3 F3 => ?_
        repeat walk_at "ds"
        refine ⟨_, _, _, Kt.ki K3, rfl, rfl, ?_⟩
        repeat walk_at "ds"
        refine draw K3.dk (by omega) (by omega) fun n2 s4 a2 b2 D4 F4 => ?_
        repeat walk_at "ds"
        have K4 := K3.draw D4 F4
        refine bx_ix_in a2 (by simp; omega) fun w hw => ?_
        have hw : w ∈ [.tuple [.str "fault", .str u], .tuple [.str "back"]] := hw
        have hL : Leaf p kn lo [] w := by
          simp at hw
          rcases hw with rfl | rfl
          · exact .fault hu
          · exact .back
        repeat walk_at "ds"
        exact fin _ _ _ _ hL K4 (by omega) (F1.trans (F2.k.trans (F3.trans F4.k)))
      · refine run_nx ?_
        refine seq_nx ?_
        refine rest1 H K2 P N (C := c + 28) (by omega) (by omega) (by omega) (by omega) (by omega) (by omega) (F1.trans F2.k) fun d m L c' l' s' e' w1 w2 w3 w4 w5 => ?_
        repeat walk_at "ds"
        exact h d m L c' l' _ w1 (w2.trim ql) w3 w4 w5.trim
    · refine two_F ?_
      refine run_nx ?_
      refine seq_nx ?_
      refine rest1 H K1 P N (C := c + 28) (by omega) (by omega) (by omega) (by omega) (by omega) (by omega) F1 fun d m L c' l' s' e' w1 w2 w3 w4 w5 => ?_
      repeat walk_at "ds"
      exact h d m L c' l' _ w1 (w2.trim ql) w3 w4 w5.trim
  · repeat walk_at "ds"
    refine two_dec (fun h4 => ?_) (fun h4 => ?_)
    · repeat walk_at "ds"
      refine ⟨_, _, _, Kt.ki K1, rfl, rfl, ?_⟩
      repeat walk_at "ds"
      refine draw K1.dk (by omega) (by omega) fun n1 s2 a1 b1 D2 F2 => ?_
      repeat walk_at "ds"
      have K2 := K1.draw D2 F2
      refine ⟨_, _, _, Kt.ki K2, rfl, rfl, ?_⟩
      repeat walk_at "ds"
      refine draw K2.dk (by omega) (by omega) fun n2 s3 a2 b2 D3 F3 => ?_
      repeat walk_at "ds"
      have K3 := K2.draw D3 F3
      refine bx_ix_in a2 (by simp; omega) fun d hd => ?_
      have hd : d ∈ [.int n1, .int 9999, .int 0] := hd
      obtain ⟨i, rfl, i0⟩ : ∃ i, d = .int i ∧ 0 ≤ i ∧ i ≤ 9999 := by
        simp at hd
        rcases hd with rfl | rfl | rfl
        · exact ⟨_, rfl, by omega⟩
        · exact ⟨_, rfl, by omega⟩
        · exact ⟨_, rfl, by omega⟩
      repeat walk_at "ds"
      refine bx_ix_in (by omega) (by simp; omega) fun w hw => ?_
      have hw : w ∈ [.tuple [.str "copy", .str x, .str y], .tuple [.str "mix", .str x, .str y, .str z], .tuple [.str "open", .str x, .str y], .tuple [.str "tell", .str x], .tuple [.str "wipe", .str x], .tuple [.str "number", .str x, .int i]] := hw
      have hL : ∃ L, Leaf p kn lo L w := by
        simp at hw
        rcases hw with rfl | rfl | rfl | rfl | rfl | rfl
        · exact ⟨[x, y], .bx (k := "copy") (bs := [x, y]) (by simp) (by simp [hx, hy])⟩
        · exact ⟨[x, y, z], .bx (k := "mix") (bs := [x, y, z]) (by simp) (by simp [hx, hy, hz])⟩
        · exact ⟨[x, y], .bx (k := "open") (bs := [x, y]) (by simp) (by simp [hx, hy])⟩
        · exact ⟨[x], .bx (k := "tell") (bs := [x]) (by simp) (by simp [hx])⟩
        · exact ⟨[x], .bx (k := "wipe") (bs := [x]) (by simp) (by simp [hx])⟩
        · exact ⟨[x], .number hx i0⟩
      obtain ⟨L, hL⟩ := hL
      repeat walk_at "ds"
      exact fin _ L _ _ hL K3 (by omega) (F1.trans (F2.k.trans F3.k))
    repeat walk_at "ds"
    refine two_dec (fun h4 => ?_) (fun h4 => ?_)
    · repeat walk_at "ds"
      refine ⟨_, _, _, Kt.ki K1, rfl, rfl, ?_⟩
      repeat walk_at "ds"
      refine some_ K1 (by omega) (by omega) fun u s2 hu K2 F2 => ?_
      repeat walk_at "ds"
      exact fin _ _ _ _ (.clear hu) K2 (by omega) (F1.trans F2)
    repeat walk_at "ds"
    refine two_dec (fun h4 => ?_) (fun h4 => ?_)
    · repeat walk_at "ds"
      refine ⟨_, _, _, Kt.ki K1, rfl, rfl, ?_⟩
      repeat walk_at "ds"
      refine draw K1.dk (by omega) (by omega) fun n1 s2 a1 b1 D2 F2 => ?_
      repeat walk_at "ds"
      have K2 := K1.draw D2 F2
      obtain ⟨j, ej⟩ : ∃ j : Nat, 1 + n1 = j := ⟨(1 + n1).toNat, by omega⟩
      rw [ej]
      refine unlike K2 P (by omega) (by omega) fun ys zs s3 e3 e4 K3 F3 => ?_
      repeat walk_at "ds"
      exact fin _ _ _ _ (.drop (by omega) ⟨zs, e4⟩) K3 (by omega) (F1.trans (F2.k.trans F3))
    repeat walk_at "ds"
    refine two_dec (fun h4 => ?_) (fun h4 => ?_)
    · repeat walk_at "ds"
      refine ⟨_, _, _, Kt.ki K1, rfl, rfl, ?_⟩
      repeat walk_at "ds"
      refine some_ K1 (by omega) (by omega) fun u s2 hu K2 F2 => ?_
      repeat walk_at "ds"
      exact fin _ _ _ _ (.risk hu) K2 (by omega) (F1.trans F2)
    exfalso
    omega
theorem gen : ∀ (n F : Nat), (2 * n + 2 ≤ F → RowS (f_G30 F 0) n) ∧ (2 * n + 1 ≤ F → WordS (f_G30 F 1) n) := fun n F => by
  induction F generalizing n with
  | zero => exact ⟨fun h => absurd h (by omega), fun h => absurd h (by omega)⟩
  | succ F ih =>
    refine ⟨fun h => ?_, fun h => ?_⟩
    · show RowS (fnF 4 6 (m__law_row (f_G30 F))) n
      exact grow_s ((ih n).2 (by omega))
    · show WordS (fnF 4 13 (m__law_word (f_G30 F))) n
      refine gword_s fun n' e => (ih n').1 (by omega)
theorem row : ∀ n, n ≤ 4 → RowS f__law_row n := fun n h => (gen n 14).1 (by omega)
end Ds.K06
namespace Ds.K06
open PySem PySem.Spec PyProof.Rows L2 Dn TL
theorem cut_to {xs : List D} {k : Nat} : Dn.cutD xs none (some (k : Int)) = xs.take k := by
  unfold Dn.cutD
  rw [HT.sIx_none, HT.sIx_nat, Nat.sub_zero, List.drop_zero]
  by_cases h : k ≤ xs.length
  · rw [Nat.min_eq_left h]
  · rw [Nat.min_eq_right (by omega), List.take_of_length_le (Nat.le_refl _), List.take_of_length_le (by omega)]
/-- the i-th def of a program -/
def Df (p : KP) (kns : List (Str × Nat × Nat)) (i : Nat) (d : D) : Prop := ∃ (nm : Str) (as gs : List Str) (row : D) (m : Nat) (L : List Str), p.C[i]? = some nm ∧ kns[i]? = some (nm, as.length, gs.length) ∧ d = .tuple [.str nm, .tuple (as.map PyData.str), .tuple (gs.map PyData.str), row] ∧ Sub p as ∧ Sub p gs ∧ as.length ≤ 4 ∧ gs.length ≤ 4 ∧ m ≤ 40 ∧ Rw p (kns.take i) 3 0 m L row
structure Prog (p : KP) (kns : List (Str × Nat × Nat)) (defs : List D) (main : D) : Prop where
  len : defs.length = kns.length
  six : kns.length ≤ 6
  df : ∀ (i : Nat) (d : D), defs[i]? = some d → Df p kns i d
  kn : Knok kns
  main : ∃ m L, m ≤ 40 ∧ Rw p kns 4 0 m L main
theorem Kt.known {p : KP} {b k q c lf : Nat} {kn : List (Str × Nat × Nat)} {s : St} {x : Str × Nat × Nat} (h : Kt p b k q c lf kn s) : Kt p b k q c lf (kn ++ [x]) (s.set q (.lst (((kn.map knD).map Cl.sh) ++ [Cl.sh (knD x)]))) := by
  have hb := h.bk
  have hq := h.kq
  refine ⟨hb, hq, h.dk.of (set_other (by omega)), (set_other (by omega)).trans h.ki, ?_⟩
  rw [set_same h.lt]
  simp
theorem Df.more {p : KP} {kns : List (Str × Nat × Nat)} {x : Str × Nat × Nat} {i : Nat} {d : D} (h : Df p kns i d) : Df p (kns ++ [x]) i d := by
  obtain ⟨nm, as, gs, row, m, L, h1, h2, h3, h4, h5, h6, h7, h8, h9⟩ := h
  have hi := (List.getElem?_eq_some_iff.mp h2).1
  exact ⟨nm, as, gs, row, m, L, h1, by rw [List.getElem?_append_left hi]; exact h2, h3, h4, h5, h6, h7, h8, by rw [List.take_append_of_le_length (by omega)]; exact h9⟩
end Ds.K06
namespace Ds.K06
open PySem PySem.Spec PyProof.Rows L2 Dn TL
theorem program {p : KP} {b k q c : Nat} {s : St} {Q : Cl → St → Prop} (K : Kt p b k q c 40 [] s) (P : KPok p) (hc : c ≤ 1000)
    (h : ∀ (kns : List (Str × Nat × Nat)) (defs : List D) (main : D) (s' : St), Prog p kns defs main → (∃ c' lf', c' ≤ 100000 ∧ Kt p b k q c' lf' kns s') → Q (.sh (.tuple [.tuple defs, main])) s') : FRun f__law_program [.lo k, .sh (.int 6)] s Q := by
  have ql := K.lt
  have bk := K.bk
  have kq := K.kq
  have C6 := P.c6
  have B6 := P.b6
  refine frun_fn rfl ?_
  unfold m__law_program
  repeat walk_at "ds"
  have K1 := K.app (o := .lst [])
  refine ⟨_, _, _, Kt.ki K1, rfl, rfl, ?_⟩
  repeat walk_at "ds"
  refine ⟨_, _, _, Kt.ki K1, rfl, rfl, ?_⟩
  repeat walk_at "ds"
  refine draw K1.dk (by omega) (by omega) fun n1 s1 a1 b1 D1 F1 => ?_
  repeat walk_at "ds"
  have K1 := K1.draw D1 F1
  have at1 := F1.at_ app_new (by omega)
  obtain ⟨j, rfl⟩ : ∃ j : Nat, n1 = j := ⟨n1.toNat, by omega⟩
  rw [cut_to]
  refine run_forL _ (fun i e s' => ∃ (c' lf' : Nat) (kns : List (Str × Nat × Nat)) (defs : List D) (z3 z4 z5 z6 z7 : Cl), Kt p b k q c' lf' kns s' ∧ c' + 30 * lf' ≤ c + 1 + 1200 + 20 * i ∧ lf' ≤ 40 ∧ kns.length = i ∧ defs.length = i ∧ Knok kns ∧ (∀ (i : Nat) (d : D), defs[i]? = some d → Df p kns i d) ∧ s'[s.length]? = some (.lst (defs.map Cl.sh)) ∧ s.length ≤ s'.length ∧ e = [.lo k, .sh (.int 6), .lo s.length, z3, z4, z5, z6, z7]) ?_ (fun i d e s' hd hI => ?_) fun e s' hI => ?_
  · exact ⟨_, 40, [], [], _, _, _, _, _, K1, by omega, by omega, rfl, rfl, ⟨by simp, by simp, by simp⟩, by simp, at1, by have := lt_of_at at1; omega, rfl⟩
  · obtain ⟨c2, l2, kns, defs, z3, z4, z5, z6, z7, K2, e1, e2, e3, e4, N, hD, at2, le2, rfl⟩ := hI
    have hj : i < j ∧ ∃ nm, p.C[i]? = some nm ∧ d = .str nm := by
      have hlt := (List.getElem?_eq_some_iff.mp hd).1
      rw [List.length_take, List.length_map] at hlt
      rw [List.getElem?_take_of_lt (by omega), List.getElem?_map] at hd
      refine ⟨by omega, p.C[i]'(by omega), List.getElem?_eq_getElem (by omega), ?_⟩
      rw [List.getElem?_eq_getElem (by omega)] at hd
      exact (Option.some.inj hd).symm
    obtain ⟨hj, nm, hnm, rfl⟩ := hj
    have nmq := P.c.nm nm (List.mem_of_getElem? hnm)
    refine ⟨_, rfl, ?_⟩
    repeat walk_at "ds"
    refine ⟨_, _, _, Kt.ki K2, rfl, rfl, ?_⟩
    repeat walk_at "ds"
    refine draw K2.dk (by omega) (by omega) fun n2 s3 a2 b2 D3 F3 => ?_
    repeat walk_at "ds"
    have K3 := K2.draw D3 F3
    generalize hwd : 3 + 2 * (if decide (n2 = 5) = true then 1 else 0 : Int) = wd
    have hwd : 3 ≤ wd ∧ wd ≤ 5 := by
      split at hwd <;> omega
    repeat walk_at "ds"
    refine ⟨_, _, _, Kt.ki K3, rfl, rfl, ?_⟩
    repeat walk_at "ds"
    refine draw K3.dk (by omega) (by omega) fun n3 s4 a3 b3 D4 F4 => ?_
    repeat walk_at "ds"
    have K4 := K3.draw D4 F4
    refine ⟨_, _, _, Kt.ki K4, rfl, rfl, ?_⟩
    repeat walk_at "ds"
    refine draw K4.dk (by omega) (by omega) fun n4 s5 a4 b4 D5 F5 => ?_
    repeat walk_at "ds"
    have K5 := K4.draw D5 F5
    refine ⟨_, _, _, Kt.ki K5, rfl, rfl, ?_⟩
    repeat walk_at "ds"
    refine draw K5.dk (by omega) (by omega) fun n5 s6 a5 b5 D6 F6 => ?_
    repeat walk_at "ds"
    have K6 := K5.draw D6 F6
    refine row 3 (by omega) 1 (1 + n5) 0 K6 P N (by omega) (by omega) (by omega) (by omega) (by omega) fun rw_ m L c7 l7 s7 hR K7 g1 g2 F7 => ?_
    repeat walk_at "ds"
    obtain ⟨u, rfl⟩ : ∃ u : Nat, n3 = u := ⟨n3.toNat, by omega⟩
    obtain ⟨v, rfl⟩ : ∃ v : Nat, n4 = v := ⟨n4.toNat, by omega⟩
    have at6 := (F3.trans (F4.trans (F5.trans F6))).at_ at2 (by omega)
    have at7 := F7.at_ at6 (by omega) (by omega)
    refine ⟨_, at7, ?_⟩
    repeat walk_at "ds"
    refine unlike K7 P (by omega) (by omega) fun ys zs s8 k1 k2 K8 F8 => ?_
    repeat walk_at "ds"
    refine unlike K8 P (by omega) (by omega) fun ys' zs' s9 k1' k2' K9 F9 => ?_
    repeat walk_at "ds"
    have at9 := (F8.trans F9).at_ at7 (by omega) (by omega)
    refine ⟨_, at9, line_of (by simp; omega), ?_⟩
    have K10 := K9.put (l := s.length) (o := .lst (defs.map Cl.sh ++ [Cl.sh (.tuple [.str nm, .tuple (ys.map PyData.str), .tuple (ys'.map PyData.str), rw_])])) ql
    repeat walk_at "ds"
    refine ⟨_, _, _, Kt.ki K10, rfl, rfl, ?_⟩
    repeat walk_at "ds"
    refine ⟨_, K10.kn, ?_⟩
    repeat walk_at "ds"
    refine ⟨_, K10.kn, line_of (by simp; omega), ?_⟩
    have K11 := K10.known (x := (nm, u, v))
    refine turn_nx ?_
    refine ⟨_, l7, kns ++ [(nm, u, v)], defs ++ [.tuple [.str nm, .tuple (ys.map PyData.str), .tuple (ys'.map PyData.str), rw_]], _, _, _, _, _, K11, by omega, by omega, by simp [e3], by simp [e4], ?_, ?_, ?_, ?_, rfl⟩
    · refine ⟨by simp; omega, fun x hx => ?_, fun x hx => ?_⟩
      · rcases List.mem_append.mp hx with z | z
        · exact N.w x z
        · simp at z; subst z; exact ⟨by show u ≤ 4; omega, by show v ≤ 4; omega⟩
      · rcases List.mem_append.mp hx with z | z
        · exact N.ok x z
        · simp at z; subst z; exact nmq.1.ok.mono (by decide)
    · intro i' d' hd'
      by_cases hi : i' < defs.length
      · rw [List.getElem?_append_left hi] at hd'
        exact (hD i' d' hd').more
      · have hlen := (List.getElem?_eq_some_iff.mp hd').1
        simp at hlen
        obtain rfl : i' = i := by omega
        rw [List.getElem?_append_right (by omega), e4, Nat.sub_self] at hd'
        have hd' := Option.some.inj hd'
        subst hd'
        refine ⟨nm, ys, ys', rw_, m, L, hnm, ?_, rfl, ⟨zs, k2⟩, ⟨zs', k2'⟩, by omega, by omega, by omega, ?_⟩
        · rw [List.getElem?_append_right (by omega), e3, Nat.sub_self, k1, k1']
          rfl
        · have : (kns ++ [(nm, u, v)]).take i' = kns := by rw [← e3]; simp
          rw [this]
          exact hR
    · have : s.length < s9.length := lt_of_at at9
      rw [set_other (by omega), set_same this]
      simp
    · have := lt_of_at at9
      simp
      omega
  · obtain ⟨c2, l2, kns, defs, z3, z4, z5, z6, z7, K2, e1, e2, e3, e4, N, hD, at2, le2, rfl⟩ := hI
    rw [List.length_take, List.length_map] at e1 e3 e4
    refine seq_nx ?_
    repeat walk_at "ds"
    refine ⟨_, _, _, Kt.ki K2, rfl, rfl, ?_⟩
    repeat walk_at "ds"
    refine ⟨_, _, K2.ki, rfl, Nat.le_of_ble_eq_true rfl, ?_⟩
    obtain ⟨l3, hl3, hl4⟩ : ∃ l3 : Nat, (if (8 : Int) > l2 then 8 else (l2 : Int)) = l3 ∧ l3 ≤ 40 ∧ 30 * l3 ≤ 30 * l2 + 240 := by
      by_cases z : (8 : Int) > l2
      · exact ⟨8, by rw [if_pos z]; rfl, by omega, by omega⟩
      · exact ⟨l2, by rw [if_neg z], by omega, by omega⟩
    have K3 := K2.left hl3
    repeat walk_at "ds"
    have at3 : (s'.set k (.dk (putC (kvs p b q l2) (Sum.inr (Str.ofString "left")) (Cl.sh (.int (if (8 : Int) > l2 then 8 else (l2 : Int)))))))[s.length]? = some (.lst (defs.map Cl.sh)) := (set_other (by omega)).trans at2
    refine ⟨_, _, snap_list at3, rfl, ?_⟩
    repeat walk_at "ds"
    refine ⟨_, _, _, Kt.ki K3, rfl, rfl, ?_⟩
    repeat walk_at "ds"
    refine draw K3.dk (by omega) (by omega) fun n2 s4 a2 b2 D4 F4 => ?_
    repeat walk_at "ds"
    have K4 := K3.draw D4 F4
    refine bx_ix_in a2 (by simp; omega) fun w hw => ?_
    have hw : w ∈ [.int 2, .int 5, .int 8, .int 12] := hw
    obtain ⟨wi, rfl, hwi⟩ : ∃ i : Int, w = .int i ∧ 0 ≤ i ∧ i ≤ 12 := by
      simp at hw
      rcases hw with rfl | rfl | rfl | rfl <;> exact ⟨_, rfl, by omega⟩
    repeat walk_at "ds"
    refine row 4 (by omega) 0 wi 0 K4 P N (by omega) (by omega) (by omega) hwi (by omega) fun rw_ m L c7 l7 s7 hR K7 g1 g2 F7 => ?_
    repeat walk_at "ds"
    exact h kns defs rw_ _ ⟨by omega, N.len, hD, N, m, L, by omega, hR⟩ ⟨_, _, by omega, K7.trim ql⟩
end Ds.K06
namespace Ds.K06
open PySem PySem.Spec PyProof.Rows L2 Dn TL
theorem toSs_map : ∀ xs : List Str, toSs (xs.map PyData.str) = some xs
  | [] => rfl
  | x :: xs => by simp [toSs, toS, toSs_map xs]
theorem boxes_all {xs : List Str} (h : ∀ x ∈ xs, boxB x = true) : (xs.map PyData.str).all (strP boxB) = true := by
  rw [List.all_map, List.all_eq_true]
  exact h
theorem boxes_of {xs : List Str} (h : ∀ x ∈ xs, boxB x = true) (n : xs.Nodup) : boxesD (.tuple (xs.map PyData.str)) = true := by
  simp only [boxesD, boxes_all h, toSs_map, n, decide_true, Bool.and_self]
theorem sub_boxes {p : KP} {bs : List Str} (P : KPok p) (h : Sub p bs) : boxesD (.tuple (bs.map PyData.str)) = true := by
  refine boxes_of (fun x hx => (P.bb x (h.mem x hx)).box) ?_
  obtain ⟨zs, h⟩ := h
  exact (List.nodup_append.mp (h.nodup_iff.mpr P.bd)).1
theorem lookup_mem {x : Str} {v : Nat × Nat} : ∀ {kn : Kn}, (kn.map Prod.fst).Nodup → (x, v) ∈ kn → kn.lookup x = some v
  | [], _, h => by simp at h
  | (y, u) :: kn, n, h => by
    rw [List.map_cons, List.nodup_cons] at n
    rcases List.mem_cons.mp h with e | h
    · cases e
      simp
    · have : x ≠ y := fun e => n.1 (List.mem_map.mpr ⟨_, h, e⟩)
      rw [List.lookup_cons, show (x == y) = false by simpa using this]
      exact lookup_mem n.2 h
theorem many_mem {k : Str} {n : Nat} (h : (k, n) ∈ many) : many.lookup k = some n ∧ k ≠ "choose" ∧ k ≠ "loop" ∧ k ≠ "out" ∧ k ≠ "call" := by
  simp only [many, List.mem_cons, Prod.mk.injEq, List.not_mem_nil, or_false] at h
  rcases h with ⟨rfl, rfl⟩ | ⟨rfl, rfl⟩ | ⟨rfl, rfl⟩ | ⟨rfl, rfl⟩ | ⟨rfl, rfl⟩ | ⟨rfl, rfl⟩ <;> exact ⟨rfl, by decide, by decide, by decide, by decide⟩
theorem leaf_ok {p : KP} {kn : Kn} {lo : Int} {L : List Str} {w : D} {R : Int → D → Bool} (P : KPok p) (nd : (kn.map Prod.fst).Nodup) (h : Leaf p kn lo L w) : wordOf R kn lo w = true := by
  cases h with
  | @bx k bs hm hb =>
    obtain ⟨m1, m2, m3, m4, m5⟩ := many_mem hm
    simp only [wordOf, if_neg m2, if_neg m3, if_neg m4, if_neg m5, plainB, m1]
    rw [boxes_all fun x hx => (P.bb x (hb x hx)).box]
    simp
  | @take x w hx hw =>
    show (strP boxB (.str x) && strP nameB (.str w)) = true
    simp only [strP, (P.bb x hx).box, P.wn w hw, Bool.and_self]
  | @number x i hx hi =>
    show (strP boxB (.str x) && wholeD 0 9999 (.int i)) = true
    simp only [strP, wholeD, (P.bb x hx).box, hi, and_self, decide_true, Bool.and_self]
  | clear h => exact P.rn _ h
  | risk h => exact P.wn _ h
  | fault h => exact P.wn _ h
  | back => rfl
  | out h =>
    show decide _ = true
    exact decide_eq_true h
  | @drop bs h1 h2 =>
    show (boxesD (.tuple (L.map PyData.str)) && decide (lenD (.tuple (L.map PyData.str)) ≠ 0)) = true
    rw [sub_boxes P h2]
    simp [lenD]
    intro e
    subst e
    simp at h1
  | @call x as gs h1 h2 h3 =>
    show callB kn [.str x, .tuple (as.map PyData.str), .tuple (gs.map PyData.str)] = true
    simp only [callB, lookup_mem nd h1, sub_boxes P h2, sub_boxes P h3, lenD, List.length_map, decide_true, Bool.and_self]
theorem sum_all {P : Nat → List Str → D → Prop} {f : D → Bool} {m : Nat} {L : List Str} {ws : List D} (h : SumL P m L ws) (H : ∀ k L w, P k L w → f w = true) : ws.all f = true := by
  induction h with
  | nil => rfl
  | cons a b ih => rw [List.all_cons, H _ _ _ a, ih]; rfl
theorem row_ok {P : Nat → List Str → D → Prop} {f : D → Bool} {m : Nat} {L : List Str} {d : D} (h : Rwf P m L d) (H : ∀ k L w, P k L w → f w = true) : rowOf f d = true := by
  obtain ⟨ws, rfl, h⟩ := h
  exact sum_all h H
theorem wd_ok {p : KP} {kn : Kn} (P : KPok p) (nd : (kn.map Prod.fst).Nodup) : ∀ (n F : Nat) (lo : Int) (m : Nat) (L : List Str) (w : D), 2 * n + 1 ≤ F → Wd p kn n lo m L w → wrB F 0 kn lo w = true
  | n, 0, _, _, _, _, hF, _ => absurd hF (by omega)
  | 0, F + 1, lo, m, L, w, hF, h => leaf_ok P nd h.2
  | n + 1, F + 1, lo, m, L, w, hF, h => by
    show wordOf (fun a => wrB F 1 kn a) kn lo w = true
    obtain ⟨F, rfl⟩ : ∃ G, F = G + 1 := ⟨F - 1, by omega⟩
    rcases h with ⟨_, h⟩ | ⟨k, d, _, rfl, h⟩ | ⟨k, rs, _, rfl, h1, h⟩
    · exact leaf_ok P nd h
    · show rowOf (wrB F 0 kn (lo + 1)) d = true
      exact row_ok h fun k L w hw => wd_ok P nd n F _ _ _ _ (by omega) hw
    · show (decide (1 ≤ rs.length ∧ rs.length ≤ 4) && rs.all (wrB (F + 1) 1 kn lo)) = true
      rw [decide_eq_true h1, Bool.true_and]
      exact sum_all h fun k L d hd => row_ok hd fun k L w hw => wd_ok P nd n F _ _ _ _ (by omega) hw
theorem rw_ok {p : KP} {kn : Kn} (P : KPok p) (nd : (kn.map Prod.fst).Nodup) {n F : Nat} {lo : Int} {m : Nat} {L : List Str} {d : D} (hF : 2 * n + 2 ≤ F) (h : Rw p kn n lo m L d) : wrB F 1 kn lo d = true := by
  obtain ⟨F, rfl⟩ : ∃ G, F = G + 1 := ⟨F - 1, by omega⟩
  exact row_ok h fun k L w hw => wd_ok P nd n F _ _ _ _ (by omega) hw
theorem okW_tups {ds : List D} (h : ∀ d ∈ ds, isTup d = true) : okW ds = true := by
  unfold okW
  split
  · rename_i w r
    have := h (.str w) (by simp)
    cases this
  · rfl
theorem isCh_tups {ds : List D} (h : ∀ d ∈ ds, isTup d = true) : isCh (.tuple ds) = false := by
  unfold isCh
  split
  · rename_i w r e
    cases e
    have := h (.str w) (by simp)
    cases this
  · rfl
theorem fine_strs {n : Nat} {xs : List Str} (l : xs.length ≤ 1000) (h : ∀ x ∈ xs, Ok 64 x) : Fine (n + 1) (.tuple (xs.map PyData.str)) := by
  refine .tup (by simpa using l) ?_ fun d hd => ?_
  · unfold okW
    split
    · rename_i w r e
      have : r ∈ xs.map PyData.str := by rw [e]; simp
      obtain ⟨y, _, rfl⟩ := List.mem_map.mp this
      simp [isCh, isTup]
    · rfl
  · obtain ⟨x, hx, rfl⟩ := List.mem_map.mp hd
    exact .str (h x hx)
theorem fa_nil {n : Nat} : ∀ d ∈ ([] : List D), Fine n d := fun d hd => nomatch hd
theorem fa_cons {n : Nat} {d : D} {ds : List D} (h : Fine n d) (k : ∀ d ∈ ds, Fine n d) : ∀ x ∈ d :: ds, Fine n x := fun x hx => by
  rcases List.mem_cons.mp hx with rfl | hx
  · exact h
  · exact k x hx
theorem sub_len {p : KP} {bs : List Str} (P : KPok p) (h : Sub p bs) : bs.length ≤ 6 := by
  obtain ⟨zs, h⟩ := h
  have := h.length_eq
  have := P.b6
  rw [List.length_append] at *
  omega
theorem sub_fine {n : Nat} {p : KP} {bs : List Str} (P : KPok p) (h : Sub p bs) : Fine (n + 1) (.tuple (bs.map PyData.str)) :=
  fine_strs (by have := sub_len P h; omega) fun x hx => (P.b x (h.mem x hx)).mono (by decide)
theorem leaf_fine {p : KP} {kn : Kn} {lo : Int} {L : List Str} {w : D} (P : KPok p) (N : Knok kn) (h : Leaf p kn lo L w) : Fine 2 w ∧ isTup w = true := by
  have lit : ∀ x : Str, (decide (x.length ≤ 64) && (tl x).all (· < 128)) = true → Fine 1 (.str x) := fun x h => .str (Ok.lit _ _ h)
  cases h with
  | @bx k bs hm hb =>
    refine ⟨?_, rfl⟩
    have hk : Ok 64 k ∧ L.length ≤ 3 := by
      simp only [List.mem_cons, Prod.mk.injEq, List.not_mem_nil, or_false] at hm
      rcases hm with ⟨rfl, e⟩ | ⟨rfl, e⟩ | ⟨rfl, e⟩ | ⟨rfl, e⟩ | ⟨rfl, e⟩ | ⟨rfl, e⟩ <;> exact ⟨Ok.lit _ _ (by decide), by omega⟩
    have : Fine 2 (.tuple ((k :: L).map PyData.str)) := fine_strs (by simp; omega) fun x hx => by
      rcases List.mem_cons.mp hx with rfl | hx
      · exact hk.1
      · exact (P.b x (hb x hx)).mono (by decide)
    exact this
  | @take x w hx hw =>
    exact ⟨.tup (by simp) rfl (fa_cons (lit _ (by decide)) (fa_cons (.str ((P.b x hx).mono (by decide))) (fa_cons (.str ((P.w w hw).mono (by decide))) fa_nil))), rfl⟩
  | @number x i hx hi => exact ⟨.tup (by simp) rfl (fa_cons (lit _ (by decide)) (fa_cons (.str ((P.b x hx).mono (by decide))) (fa_cons .int fa_nil))), rfl⟩
  | clear h => exact ⟨.tup (by simp) rfl (fa_cons (lit _ (by decide)) (fa_cons (.str ((P.r _ h).mono (by decide))) fa_nil)), rfl⟩
  | risk h => exact ⟨.tup (by simp) rfl (fa_cons (lit _ (by decide)) (fa_cons (.str ((P.w _ h).mono (by decide))) fa_nil)), rfl⟩
  | fault h => exact ⟨.tup (by simp) rfl (fa_cons (lit _ (by decide)) (fa_cons (.str ((P.w _ h).mono (by decide))) fa_nil)), rfl⟩
  | back => exact ⟨.tup (by simp) rfl (fa_cons (lit _ (by decide)) fa_nil), rfl⟩
  | out h => exact ⟨.tup (by simp) rfl (fa_cons (lit _ (by decide)) (fa_cons .int fa_nil)), rfl⟩
  | @drop bs h1 h2 => exact ⟨.tup (by simp) (by first | rfl | decide) (fa_cons (lit _ (by decide)) (fa_cons (sub_fine P h2) fa_nil)), rfl⟩
  | @call x as gs h1 h2 h3 => exact ⟨.tup (by simp) rfl (fa_cons (lit _ (by decide)) (fa_cons (.str ((N.ok _ h1).mono (by decide))) (fa_cons (sub_fine P h2) (fa_cons (sub_fine P h3) fa_nil)))), rfl⟩
theorem sum_mem {P : Nat → List Str → D → Prop} {m : Nat} {L : List Str} {ws : List D} (h : SumL P m L ws) : ∀ w ∈ ws, ∃ k L', P k L' w ∧ k ≤ m := by
  induction h with
  | nil => intro w hw; cases hw
  | @cons k m L L' w ws a b ih =>
    intro x hx
    rcases List.mem_cons.mp hx with rfl | hx
    · exact ⟨_, _, a, by omega⟩
    · obtain ⟨k', L2, h1, h2⟩ := ih x hx
      exact ⟨k', L2, h1, by omega⟩
theorem sum_len {P : Nat → List Str → D → Prop} {m : Nat} {L : List Str} {ws : List D} (h : SumL P m L ws) (H : ∀ k L w, P k L w → 1 ≤ k) : ws.length ≤ m := by
  induction h with
  | nil => exact Nat.le_refl _
  | @cons k m L L' w ws a b ih =>
    have := H _ _ _ a
    rw [List.length_cons]
    omega
theorem wd_pos {p : KP} {kn : Kn} {n : Nat} {lo : Int} {m : Nat} {L : List Str} {w : D} (h : Wd p kn n lo m L w) : 1 ≤ m := by
  cases n with
  | zero => have := h.1; omega
  | succ n => rcases h with ⟨h, _⟩ | ⟨k, d, h, _⟩ | ⟨k, rs, h, _⟩ <;> omega
theorem rwf_fine {P : Nat → List Str → D → Prop} {n m : Nat} {L : List Str} {d : D} (h : Rwf P m L d) (hm : m ≤ 1000) (h1 : ∀ k L w, P k L w → 1 ≤ k) (h2 : ∀ k L w, P k L w → k ≤ m → Fine n w ∧ isTup w = true) : Fine (n + 1) d ∧ isTup d = true ∧ isCh d = false := by
  obtain ⟨ws, rfl, h⟩ := h
  have ht : ∀ d ∈ ws, isTup d = true := fun d hd => by
    obtain ⟨k, L', a, b⟩ := sum_mem h d hd
    exact (h2 _ _ _ a b).2
  exact ⟨.tup (Nat.le_trans (sum_len h h1) hm) (okW_tups ht) fun d hd => by
    obtain ⟨k, L', a, b⟩ := sum_mem h d hd
    exact (h2 _ _ _ a b).1, rfl, isCh_tups ht⟩
theorem wd_fine {p : KP} {kn : Kn} (P : KPok p) (N : Knok kn) : ∀ (n : Nat) (lo : Int) (m : Nat) (L : List Str) (w : D), m ≤ 1000 → Wd p kn n lo m L w → Fine (2 * n + 2) w ∧ isTup w = true
  | 0, lo, m, L, w, hm, h => leaf_fine P N h.2
  | n + 1, lo, m, L, w, hm, h => by
    rcases h with ⟨_, h⟩ | ⟨k, d, e, rfl, h⟩ | ⟨k, rs, e, rfl, h1, h⟩
    · have := leaf_fine P N h
      exact ⟨this.1.mono (by omega), this.2⟩
    · obtain ⟨f1, f2, f3⟩ := rwf_fine h (by omega) (fun k L w hw => wd_pos hw) fun k L w hw hk => wd_fine P N n (lo + 1) k L w (by omega) hw
      refine ⟨.tup (n := 2 * n + 3) (by simp) ?_ (fa_cons (.str (Ok.lit _ _ (by decide))) (fa_cons f1 fa_nil)), rfl⟩
      show ((_ || !isCh d) && (decide (Str.ofString "loop" ≠ Str.ofString "choose") || _)) = true
      rw [f3, decide_eq_true (show Str.ofString "loop" ≠ Str.ofString "choose" by decide)]
      simp
    · have hr : ∀ d ∈ rs, Fine (2 * n + 3) d ∧ isTup d = true ∧ isCh d = false := fun d hd => by
        obtain ⟨k', L', a, b⟩ := sum_mem h d hd
        exact rwf_fine a (by omega) (fun k L w hw => wd_pos hw) fun k L w hw hk => wd_fine P N n lo k L w (by omega) hw
      exact ⟨.chs (n := 2 * n + 3) (by omega) (okW_tups fun d hd => (hr d hd).2.1) (fun d hd => (hr d hd).2.2) fun d hd => (hr d hd).1, rfl⟩
theorem rw_fine {p : KP} {kn : Kn} {n : Nat} {lo : Int} {m : Nat} {L : List Str} {d : D} (P : KPok p) (N : Knok kn) (hm : m ≤ 1000) (h : Rw p kn n lo m L d) : Fine (2 * n + 3) d ∧ isTup d = true ∧ isCh d = false :=
  rwf_fine h hm (fun k L w hw => wd_pos hw) fun k L w hw hk => wd_fine P N n lo k L w (by omega) hw
theorem keys_take {p : KP} {kns : Kn} {defs : List D} {main : D} (h : Prog p kns defs main) : kns.map Prod.fst = p.C.take kns.length := by
  apply List.ext_getElem?
  intro i
  by_cases hi : i < kns.length
  · have hd : i < defs.length := by have := h.len; omega
    obtain ⟨nm, as, gs, row, m, L, h1, h2, _⟩ := h.df i _ (List.getElem?_eq_getElem hd)
    rw [List.getElem?_map, h2, List.getElem?_take_of_lt hi, h1]
    rfl
  · rw [List.getElem?_eq_none (by simp; omega), List.getElem?_eq_none (by simp; omega)]
theorem keys_nd {p : KP} {kns : Kn} {defs : List D} {main : D} (P : KPok p) (h : Prog p kns defs main) : (kns.map Prod.fst).Nodup := by
  rw [keys_take h]
  exact (List.take_sublist _ _).nodup P.c.nd
theorem knok_take {kns : Kn} (N : Knok kns) (i : Nat) : Knok (kns.take i) :=
  ⟨by have := N.len; rw [List.length_take]; omega, fun x hx => N.w x (List.mem_of_mem_take hx), fun x hx => N.ok x (List.mem_of_mem_take hx)⟩
theorem def_ok {p : KP} {kns : Kn} {defs : List D} {main : D} (P : KPok p) (h : Prog p kns defs main) {i : Nat} {d : D} (hd : defs[i]? = some d) : defB (kns.take i) d = true ∧ FDef d ∧ kns[i]? = some (entry d) := by
  obtain ⟨nm, as, gs, row, m, L, h1, h2, rfl, h4, h5, h6, h7, h8, h9⟩ := h.df i d hd
  have nd := keys_nd P h
  have hi := (List.getElem?_eq_some_iff.mp h2).1
  have nd' : ((kns.take i).map Prod.fst).Nodup := by rw [List.map_take]; exact (List.take_sublist _ _).nodup nd
  have nn := (P.c.nm nm (List.mem_of_getElem? h1)).1
  have hl : (kns.take i).lookup nm = none := by
    rw [List.lookup_eq_none_iff]
    intro x hx
    obtain ⟨j, hj, e⟩ := List.getElem_of_mem hx
    rw [List.length_take] at hj
    rw [List.getElem_take] at e
    have := List.pairwise_iff_getElem.mp nd j i (by simp; omega) (by simpa using hi) (by omega)
    rw [List.getElem_map, List.getElem_map, e] at this
    rw [List.getElem?_eq_getElem hi] at h2
    rw [Option.some.inj h2] at this
    simpa using fun z : nm = x.1 => this z.symm
  have f := rw_fine P (knok_take h.kn i) (by omega) h9
  refine ⟨?_, .four (.str (nn.ok.mono (by decide))) (sub_fine P h4) (sub_fine P h5) (f.1.mono (by decide)) f.2.2, ?_⟩
  · show (nameB nm && (((kns.take i).lookup nm).isNone && (boxesD (.tuple (as.map PyData.str)) && (boxesD (.tuple (gs.map PyData.str)) && (decide (lenD (.tuple (as.map PyData.str)) ≤ 4 ∧ lenD (.tuple (gs.map PyData.str)) ≤ 4) && wrB 14 1 (kns.take i) 0 row))))) = true
    rw [nm_name nn, hl, sub_boxes P h4, sub_boxes P h5, rw_ok P nd' (by decide) h9]
    simp [lenD, h6, h7]
  · rw [h2]
    simp [entry, lenD]
theorem defs_take {p : KP} {kns : Kn} {defs : List D} {main : D} (P : KPok p) (h : Prog p kns defs main) (r : List D) (n : Nat) : ∀ i, i ≤ n → n ≤ defs.length → defsB (defs.take n ++ r) [] = defsB ((defs.take n).drop i ++ r) (kns.take i)
  | 0, _, _ => rfl
  | i + 1, hi, hn => by
    rw [defs_take P h r n i (by omega) hn]
    have hlt : i < (defs.take n).length := by rw [List.length_take]; omega
    have e : (defs.take n)[i] = defs[i] := List.getElem_take
    obtain ⟨h1, h2, h3⟩ := def_ok P h (List.getElem?_eq_getElem (show i < defs.length by omega))
    have hk : i < kns.length := (List.getElem?_eq_some_iff.mp h3).1
    rw [List.drop_eq_getElem_cons hlt, e, List.cons_append, defsB, h1, if_pos rfl]
    congr 1
    rw [List.take_add_one, h3]
    rfl
theorem defs_app {p : KP} {kns : Kn} {defs : List D} {main : D} (P : KPok p) (h : Prog p kns defs main) (r : List D) (n : Nat) (hn : n ≤ defs.length) : defsB (defs.take n ++ r) [] = defsB r (kns.take n) := by
  rw [defs_take P h r n n (Nat.le_refl _) hn, List.drop_eq_nil_of_le (by rw [List.length_take]; omega), List.nil_append]
theorem defs_all {p : KP} {kns : Kn} {defs : List D} {main : D} (P : KPok p) (h : Prog p kns defs main) (r : List D) : defsB (defs ++ r) [] = defsB r kns := by
  have := defs_app P h r defs.length (Nat.le_refl _)
  rw [List.take_length, h.len, List.take_length] at this
  exact this
theorem prog_ok {p : KP} {kns : Kn} {defs : List D} {main : D} (P : KPok p) (h : Prog p kns defs main) : progB (.tuple [.tuple defs, main]) = true ∧ FProg (.tuple [.tuple defs, main]) := by
  obtain ⟨m, L, h1, h2⟩ := h.main
  have nd := keys_nd P h
  have f := rw_fine P h.kn (by omega) h2
  refine ⟨?_, .two (fun d hd => ?_) (f.1.mono (by decide)) f.2.2⟩
  · have e := defs_all P h []
    rw [List.append_nil] at e
    have l6 := h.six
    show (decide (defs.length ≤ 6) && (match defsB defs [] with | some kn => wrB 14 1 kn 0 main | none => false)) = true
    rw [e, h.len, decide_eq_true l6, Bool.true_and]
    exact rw_ok P nd (by decide) h2
  · obtain ⟨i, hi, e⟩ := List.getElem_of_mem hd
    exact (def_ok P h (by rw [List.getElem?_eq_getElem hi, e])).2.1
end Ds.K06
namespace Ds.K06
open PySem PySem.Spec PyProof.Rows L2 Dn TL
def T (ts : List Str) : List Nat := ts.flatMap fun s => tl s ++ [32]
def txt (ts : List Str) : Str := ⟨((T ts).dropLast).toArray⟩
theorem T_app (a b : List Str) : T (a ++ b) = T a ++ T b := List.flatMap_append
theorem T_cons (a : Str) (b : List Str) : T (a :: b) = tl a ++ 32 :: T b := by
  unfold T
  rw [List.flatMap_cons, List.append_assoc]
  rfl
theorem T_end {ts : List Str} (h : ts ≠ []) : (T ts).dropLast ++ [32] = T ts := by
  rcases List.eq_nil_or_concat ts with rfl | ⟨l, a, rfl⟩
  · exact absurd rfl h
  · have e : T (l.concat a) = (T l ++ tl a) ++ [32] := by
      rw [List.concat_eq_append, T_app, T_cons]
      show T l ++ (tl a ++ [32]) = _
      rw [List.append_assoc]
    rw [e, List.dropLast_concat]
theorem txt_tl {ts : List Str} : tl (txt ts) = (T ts).dropLast := by simp [txt, tl]
theorem txt_T {ts : List Str} (h : ts ≠ []) : tl (txt ts) ++ [32] = T ts := by rw [txt_tl, T_end h]
theorem txt_nil : txt [] = "" := ext_tl rfl
theorem txt_of {x : Str} {ts : List Str} (h : tl x ++ [32] = T ts) : x = txt ts := ext_tl (by rw [txt_tl, ← h, List.dropLast_concat])
theorem txt_one (a : Str) : txt [a] = a := (txt_of (by rw [T_cons]; rfl)).symm
theorem txt_cons (a b : Str) (r : List Str) : tl (txt (a :: b :: r)) = tl a ++ 32 :: tl (txt (b :: r)) := by
  have h := txt_T (ts := a :: b :: r) (by simp)
  rw [T_cons, ← txt_T (ts := b :: r) (by simp)] at h
  have h : tl (txt (a :: b :: r)) ++ [32] = (tl a ++ 32 :: tl (txt (b :: r))) ++ [32] := by rw [h]; simp
  exact List.append_cancel_right h
theorem tl_joinB (b : Nat) (a : Str) : ∀ ss : List Str, tl (Txt.join ⟨#[b]⟩ (a :: ss)) = tl a ++ ss.flatMap fun s => b :: tl s := by
  intro ss
  show tl (PySem.Builtin.Str.glued _ (a :: ss)) = _
  rw [StrLaws.glued_eq_join]
  induction ss generalizing a with
  | nil => simp [Str.join]
  | cons c r ih =>
    show tl (a ++ ⟨#[b]⟩ ++ Str.join ⟨#[b]⟩ (c :: r)) = _
    rw [tl_append, tl_append, ih, List.flatMap_cons]
    simp [tl]
theorem join_nil (b : Nat) : Txt.join ⟨#[b]⟩ [] = "" := by
  show PySem.Builtin.Str.glued _ [] = _
  rw [StrLaws.glued_eq_join]
  rfl
theorem join_txt (ss : List Str) : Txt.join " " ss = txt ss := by
  cases ss with
  | nil => rw [txt_nil]; exact join_nil 32
  | cons a r =>
    refine txt_of ?_
    have h := tl_joinB 32 a r
    have h : tl (Txt.join " " (a :: r)) = tl a ++ r.flatMap fun s => 32 :: tl s := h
    rw [h]
    induction r generalizing a with
    | nil => rw [T_cons]; simp [T]
    | cons c r ih =>
      have h2 := ih c (tl_joinB 32 c r) (tl_joinB 32 c r)
      rw [T_cons, ← h2, List.flatMap_cons]
      simp
/-- parts that are texts of tokens -/
theorem T_txts : ∀ {gs : List (List Str)}, (∀ g ∈ gs, g ≠ []) → T (gs.map txt) = T gs.flatten
  | [], _ => rfl
  | g :: gs, h => by
    rw [List.map_cons, List.flatten_cons, T_app, ← T_txts fun x hx => h x (List.mem_cons_of_mem _ hx), ← txt_T (h g List.mem_cons_self), T_cons, List.append_assoc]
    rfl
theorem txt_txts {gs : List (List Str)} (h : ∀ g ∈ gs, g ≠ []) : txt (gs.map txt) = txt gs.flatten := ext_tl (by rw [txt_tl, txt_tl, T_txts h])
theorem len_txt {ts : List Str} : (txt ts).length ≤ (T ts).length := by
  rw [len_tl, txt_tl, List.length_dropLast]
  omega
theorem T_len : ∀ ts : List Str, (T ts).length = (ts.map fun s => s.length + 1).sum
  | [] => rfl
  | a :: r => by
    rw [T_cons, List.length_append, List.length_cons, T_len r, List.map_cons, List.sum_cons, len_tl]
    omega
theorem joinN_T (ts : List Str) : joinN " " ts ≤ (T ts).length := by
  rw [T_len]
  unfold joinN
  have : (" " : Str).length = 1 := rfl
  rw [this]
  induction ts with
  | nil => exact Nat.le_refl _
  | cons a r ih =>
    simp only [List.map_cons, List.sum_cons, List.length_cons] at ih ⊢
    omega
theorem spl_firstB (b : Nat) (r : List Nat) : ∀ (l acc : List Nat), b ∉ l → spl [b] 0 acc (l ++ b :: r) = (acc ++ l) :: spl [b] 0 [] r
  | [], acc, _ => by
    rw [List.nil_append, spl_hit (by simp [pre]), List.append_nil]
    rfl
  | c :: l, acc, h => by
    rw [List.cons_append, spl_miss (by simp [pre]; intro z; exact absurd (z ▸ List.mem_cons_self) h), spl_firstB b r l _ fun z => h (List.mem_cons_of_mem _ z)]
    simp
theorem spl_onlyB (b : Nat) : ∀ (l acc : List Nat), b ∉ l → spl [b] 0 acc l = [acc ++ l]
  | [], acc, _ => by rw [spl_nil, List.append_nil]
  | c :: l, acc, h => by
    rw [spl_miss (by simp [pre]; intro z; exact absurd (z ▸ List.mem_cons_self) h), spl_onlyB b l _ fun z => h (List.mem_cons_of_mem _ z)]
    simp
theorem split_sp (b : Nat) (hb : b < 256) (x : Str) : (Txt.split x ⟨#[b]⟩).map tl = spl [b] 0 [] (tl x) := split_spl x ⟨#[b]⟩ (by simp [tl]) (kind_ok (sep_ok hb))
theorem split_txt : ∀ {ts : List Str}, ts ≠ [] → (∀ t ∈ ts, 32 ∉ tl t) → Txt.split (txt ts) " " = ts := fun {ts} h0 h => tls_inj (by
  have e : (Txt.split (txt ts) " ").map tl = spl [32] 0 [] (tl (txt ts)) := split_sp 32 (by decide) _
  rw [e]
  clear e
  induction ts with
  | nil => exact absurd rfl h0
  | cons a r ih =>
    have ha := h a List.mem_cons_self
    cases r with
    | nil => rw [txt_one, spl_onlyB _ _ _ ha]; simp
    | cons b r => rw [txt_cons, spl_firstB _ _ _ _ ha, ih (by simp) fun t ht => h t (List.mem_cons_of_mem _ ht)]; simp)
theorem split_lines : ∀ {ls : List Str}, ls ≠ [] → (∀ t ∈ ls, 10 ∉ tl t) → Txt.split (Txt.join "\n" ls) "\n" = ls := fun {ls} h0 h => tls_inj (by
  have e : (Txt.split (Txt.join "\n" ls) "\n").map tl = spl [10] 0 [] (tl (Txt.join "\n" ls)) := split_sp 10 (by decide) _
  rw [e]
  clear e
  cases ls with
  | nil => exact absurd rfl h0
  | cons a r =>
    have h2 : tl (Txt.join "\n" (a :: r)) = tl a ++ r.flatMap fun s => 10 :: tl s := tl_joinB 10 a r
    rw [h2]
    clear h2 h0
    induction r generalizing a with
    | nil =>
      rw [List.flatMap_nil, List.append_nil, spl_onlyB _ _ _ (h a List.mem_cons_self)]
      simp
    | cons b r ih =>
      rw [List.flatMap_cons, List.cons_append, spl_firstB _ _ _ _ (h a List.mem_cons_self), ih b fun t ht => h t (List.mem_cons_of_mem _ ht)]
      simp)
theorem txt_no {ts : List Str} {b : Nat} (hb : b ≠ 32) (h : ∀ t ∈ ts, b ∉ tl t) : b ∉ tl (txt ts) := by
  rw [txt_tl]
  intro z
  have z := List.dropLast_subset _ z
  unfold T at z
  obtain ⟨t, h1, h2⟩ := List.mem_flatMap.mp z
  rcases List.mem_append.mp h2 with h2 | h2
  · exact h t h1 h2
  · simp at h2; exact hb h2
end Ds.K06
namespace Ds.K06
open PySem PySem.Spec PyProof.Rows L2 Dn TL
def tokI (i : Int) : Str := Str.ofString (toString i)
theorem tokI_ok (n : Nat) (h : n ≤ 9999) : (tokI (n : Int)).length ≤ 4 ∧ (tokI (n : Int)).length ≠ 0 ∧ ∀ c ∈ tl (tokI (n : Int)), 48 ≤ c ∧ c ≤ 57 := by
  have e : tl (tokI (n : Int)) = numL n := tl_num n
  refine ⟨?_, ?_, ?_⟩
  · rw [len_tl, e]
    exact numL_len (by decide) (by omega)
  · rw [len_tl, e]
    intro z
    exact numL_ne n (List.length_eq_zero_iff.mp z)
  · rw [e]
    intro c hc
    exact numL_digits n c hc
end Ds.K06
namespace Ds.K06
open PySem PySem.Spec PyProof.Rows L2 Dn TL
def Tk (t : Str) : Prop := t ≠ "" ∧ t.length ≤ 20 ∧ ∀ c ∈ tl t, c ≠ 32 ∧ c ≠ 10 ∧ c < 128
theorem Tk.ok {t : Str} (h : Tk t) : Ok 20 t := ⟨h.2.1, fun c hc => (h.2.2 c hc).2.2⟩
def Bk (t : Str) : Prop := Tk t ∧ t ≠ ")"
def gBoxes (bs : List Str) : List Str := ("(" : Str) :: (bs ++ [(")" : Str)])
def bars : List (List Str) → List Str
  | [] => []
  | [g] => g
  | g :: h :: r => g ++ ("|" : Str) :: bars (h :: r)
def gRows (gs : List (List Str)) : List Str := ("{" : Str) :: (bars gs ++ [("}" : Str)])
inductive LG : D → List Str → Prop where
  | bx {k : Str} {bs : List Str} : many.lookup k = some bs.length → (∀ x ∈ bs, Tk x) → LG (.tuple (.str k :: bs.map PyData.str)) (k :: bs)
  | take {x w : Str} : Tk x → Tk w → LG (.tuple [.str "take", .str x, .str w]) ["take", x, w]
  | number {x : Str} {i : Int} : Tk x → 0 ≤ i ∧ i ≤ 9999 → LG (.tuple [.str "number", .str x, .int i]) ["number", x, tokI i]
  | one {k x : Str} : k = "clear" ∨ k = "risk" ∨ k = "fault" → Tk x → LG (.tuple [.str k, .str x]) [k, x]
  | back : LG (.tuple [.str "back"]) ["back"]
  | out {i : Int} : 0 ≤ i ∧ i ≤ 9999 → LG (.tuple [.str "out", .int i]) ["out", tokI i]
  | drop {bs : List Str} : (∀ x ∈ bs, Bk x) → LG (.tuple [.str "drop", .tuple (bs.map PyData.str)]) (("drop" : Str) :: gBoxes bs)
  | call {x : Str} {as gs : List Str} : Tk x → (∀ x ∈ as, Bk x) → (∀ x ∈ gs, Bk x) → LG (.tuple [.str "call", .str x, .tuple (as.map PyData.str), .tuple (gs.map PyData.str)]) (("call" : Str) :: x :: (gBoxes as ++ gBoxes gs))
def RG (P : D → List Str → Prop) (d : D) (g : List Str) : Prop := ∃ ws gss, d = .tuple ws ∧ All2 P ws gss ∧ g = gss.flatten
def WG : Nat → D → List Str → Prop
  | 0, w, ts => LG w ts
  | n + 1, w, ts => LG w ts ∨ (∃ d g, w = .tuple [.str "loop", d] ∧ RG (WG n) d g ∧ ts = ("loop" : Str) :: gRows [g]) ∨
    (∃ rs gs, w = .tuple [.str "choose", .tuple rs] ∧ (1 ≤ rs.length ∧ rs.length ≤ 4) ∧ All2 (RG (WG n)) rs gs ∧ ts = ("choose" : Str) :: gRows gs)
def Gd (ts : List Str) : Prop := ∀ t ∈ ts, Tk t
theorem Gd.app {a b : List Str} (h : Gd a) (k : Gd b) : Gd (a ++ b) := fun t ht => (List.mem_append.mp ht).elim (h t) (k t)
theorem Gd.cons {a : Str} {b : List Str} (h : Tk a) (k : Gd b) : Gd (a :: b) := fun t ht => by
  rcases List.mem_cons.mp ht with rfl | ht
  · exact h
  · exact k t ht
theorem Gd.nil : Gd [] := fun t ht => nomatch ht
theorem tk_lit (x : Str) (h : (decide (x ≠ "") && (decide (x.length ≤ 20) && (tl x).all fun c => decide (c ≠ 32 ∧ c ≠ 10 ∧ c < 128))) = true) : Tk x := by
  simp only [Bool.and_eq_true, decide_eq_true_eq, List.all_eq_true] at h
  exact ⟨h.1, h.2.1, h.2.2⟩
theorem let_chars {x : Str} (h : nameB x = true) : (∀ c ∈ tl x, 97 ≤ c ∧ c ≤ 122) ∧ 1 ≤ x.length ∧ x.length ≤ 8 := by
  unfold nameB lettersB at h
  simp only [Bool.and_eq_true, decide_eq_true_eq, List.all_eq_true] at h
  exact ⟨fun c hc => let_mem.mp (h.2 c hc), h.1.1⟩
theorem ne_of_len {x : Str} (h : 1 ≤ x.length) : x ≠ "" := fun e => by
  rw [e] at h
  exact absurd h (by decide)
theorem name_tk {x : Str} (h : nameB x = true) : Bk x := by
  obtain ⟨h1, h2, h3⟩ := let_chars h
  refine ⟨⟨ne_of_len h2, by omega, fun c hc => by have := h1 c hc; omega⟩, fun e => ?_⟩
  have := h1 41 (by rw [e]; decide)
  omega
theorem box_tk {x : Str} (h : Bx x) : Bk x := by
  rcases h with h | ⟨a, b, rfl, h, k⟩
  · exact name_tk h
  · obtain ⟨h1, h2, h3⟩ := let_chars h
    obtain ⟨k1, k2, k3⟩ := let_chars k
    have ld : ("." : Str).length = 1 := rfl
    have hc : ∀ c ∈ tl (a ++ "." ++ b), c = 46 ∨ 97 ≤ c ∧ c ≤ 122 := fun c hc => by
      rw [tl_append, tl_append] at hc
      rcases List.mem_append.mp hc with hc | hc
      · rcases List.mem_append.mp hc with hc | hc
        · exact .inr (h1 c hc)
        · have e : tl "." = [46] := by decide
          rw [e] at hc
          simp at hc
          exact .inl hc
      · exact .inr (k1 c hc)
    refine ⟨⟨ne_of_len (by rw [len_append, len_append]; omega), by rw [len_append, len_append]; omega, fun c h => by rcases hc c h with e | e <;> omega⟩, fun e => ?_⟩
    have := hc 41 (by rw [e]; decide)
    omega
theorem num_tk {i : Int} (h : 0 ≤ i ∧ i ≤ 9999) : Tk (tokI i) ∧ (tokI i).length ≤ 4 ∧ (∀ c ∈ tl (tokI i), 48 ≤ c ∧ c ≤ 57) := by
  obtain ⟨n, rfl⟩ : ∃ n : Nat, i = n := ⟨i.toNat, by omega⟩
  obtain ⟨h1, h2, h3⟩ := tokI_ok n (by omega)
  exact ⟨⟨ne_of_len (by omega), by omega, fun c hc => by have := h3 c hc; omega⟩, h1, h3⟩
theorem boxes_gd {bs : List Str} (h : ∀ x ∈ bs, Bk x) : Gd (gBoxes bs) := .cons (tk_lit _ (by decide)) (.app (fun t ht => (h t ht).1) (.cons (tk_lit _ (by decide)) .nil))
theorem sub_bk {p : KP} {bs : List Str} (P : KPok p) (h : Sub p bs) : ∀ x ∈ bs, Bk x := fun x hx => box_tk (P.bb x (h.mem x hx))
theorem gBoxes_len {bs : List Str} : (gBoxes bs).length = bs.length + 2 := by simp [gBoxes]
theorem leaf_g {p : KP} {kn : Kn} {lo : Int} {L : List Str} {w : D} (P : KPok p) (hk : ∀ x ∈ kn, nameB x.1 = true) (hlo : lo ≤ 9999) (h : Leaf p kn lo L w) : ∃ ts, LG w ts ∧ Gd ts ∧ ts.length ≤ 18 := by
  cases h with
  | @bx k bs hm hb =>
    have hb : ∀ x ∈ L, Tk x := fun x hx => (box_tk (P.bb x (hb x hx))).1
    have kk : Tk k ∧ L.length ≤ 3 := by
      simp only [List.mem_cons, Prod.mk.injEq, List.not_mem_nil, or_false] at hm
      rcases hm with ⟨rfl, e⟩ | ⟨rfl, e⟩ | ⟨rfl, e⟩ | ⟨rfl, e⟩ | ⟨rfl, e⟩ | ⟨rfl, e⟩ <;> exact ⟨tk_lit _ (by decide), by omega⟩
    exact ⟨_, .bx (many_mem hm).1 hb, .cons kk.1 hb, by simp; omega⟩
  | @take x w hx hw =>
    have h1 := (box_tk (P.bb x hx)).1
    have h2 := (name_tk (P.wn w hw)).1
    exact ⟨_, .take h1 h2, .cons (tk_lit _ (by decide)) (.cons h1 (.cons h2 .nil)), by simp⟩
  | @number x i hx hi =>
    have h1 := (box_tk (P.bb x hx)).1
    exact ⟨_, .number h1 hi, .cons (tk_lit _ (by decide)) (.cons h1 (.cons (num_tk hi).1 .nil)), by simp⟩
  | @clear x h =>
    have h2 := (name_tk (P.rn x h)).1
    exact ⟨_, .one (.inl rfl) h2, .cons (tk_lit _ (by decide)) (.cons h2 .nil), by simp⟩
  | @risk x h =>
    have h2 := (name_tk (P.wn x h)).1
    exact ⟨_, .one (.inr (.inl rfl)) h2, .cons (tk_lit _ (by decide)) (.cons h2 .nil), by simp⟩
  | @fault x h =>
    have h2 := (name_tk (P.wn x h)).1
    exact ⟨_, .one (.inr (.inr rfl)) h2, .cons (tk_lit _ (by decide)) (.cons h2 .nil), by simp⟩
  | back => exact ⟨_, .back, .cons (tk_lit _ (by decide)) .nil, by simp⟩
  | @out i h => exact ⟨_, .out ⟨by omega, by omega⟩, .cons (tk_lit _ (by decide)) (.cons (num_tk ⟨by omega, by omega⟩).1 .nil), by simp⟩
  | @drop bs h1 h2 =>
    have h3 := sub_bk P h2
    exact ⟨_, .drop h3, .cons (tk_lit _ (by decide)) (boxes_gd h3), by simp [gBoxes_len]; have := sub_len P h2; omega⟩
  | @call x as gs h1 h2 h3 =>
    have g2 := sub_bk P h2
    have g3 := sub_bk P h3
    have g1 := (name_tk (hk _ h1)).1
    exact ⟨_, .call g1 g2 g3, .cons (tk_lit _ (by decide)) (.cons g1 (.app (boxes_gd g2) (boxes_gd g3))), by simp [gBoxes_len]; have := sub_len P h2; have := sub_len P h3; omega⟩
theorem bars_gd : ∀ {gs : List (List Str)}, (∀ g ∈ gs, Gd g) → Gd (bars gs)
  | [], _ => .nil
  | [g], h => h g List.mem_cons_self
  | g :: k :: r, h => .app (h g List.mem_cons_self) (.cons (tk_lit _ (by decide)) (bars_gd fun x hx => h x (List.mem_cons_of_mem _ hx)))
theorem bars_len : ∀ gs : List (List Str), (bars gs).length ≤ gs.flatten.length + (gs.length - 1)
  | [] => Nat.zero_le _
  | [g] => by simp [bars]
  | g :: h :: r => by
    have := bars_len (h :: r)
    simp only [bars, List.length_append, List.length_cons, List.flatten_cons] at this ⊢
    omega
theorem rows_gd {gs : List (List Str)} (h : ∀ g ∈ gs, Gd g) : Gd (gRows gs) := .cons (tk_lit _ (by decide)) (.app (bars_gd h) (.cons (tk_lit _ (by decide)) .nil))
theorem rows_len (gs : List (List Str)) : (gRows gs).length ≤ gs.flatten.length + gs.length + 2 := by
  have := bars_len gs
  simp only [gRows, List.length_cons, List.length_append, List.length_nil]
  omega
/-- things in a row, with their tokens -/
theorem sum_g {P : Nat → List Str → D → Prop} {G : D → List Str → Prop} (K : Nat) {m : Nat} {L : List Str} {ws : List D} (h : SumL P m L ws) (H : ∀ k L w, P k L w → k ≤ m → ∃ ts, G w ts ∧ Gd ts ∧ ts.length ≤ K * k) :
    ∃ gss, All2 G ws gss ∧ (∀ g ∈ gss, Gd g) ∧ gss.flatten.length ≤ K * m ∧ gss.length = ws.length := by
  induction h with
  | nil => exact ⟨[], .nil, by simp, by simp, rfl⟩
  | @cons k m L L' w ws a b ih =>
    obtain ⟨ts, h1, h2, h3⟩ := H _ _ _ a (by omega)
    obtain ⟨gss, g1, g2, g3, g4⟩ := ih fun k' L w hw hk => H k' L w hw (by omega)
    refine ⟨ts :: gss, .cons h1 g1, fun g hg => ?_, ?_, by simp [g4]⟩
    · rcases List.mem_cons.mp hg with rfl | hg
      · exact h2
      · exact g2 g hg
    · rw [List.flatten_cons, List.length_append, Nat.mul_add]
      omega
theorem flat_gd {gss : List (List Str)} (h : ∀ g ∈ gss, Gd g) : Gd gss.flatten := fun t ht => by
  obtain ⟨g, h1, h2⟩ := List.mem_flatten.mp ht
  exact h g h1 t h2
theorem rwf_g {P : Nat → List Str → D → Prop} {G : D → List Str → Prop} {m : Nat} {L : List Str} {d : D} (h : Rwf P m L d) (H : ∀ k L w, P k L w → k ≤ m → ∃ ts, G w ts ∧ Gd ts ∧ ts.length ≤ 18 * k) : ∃ g, RG G d g ∧ Gd g ∧ g.length ≤ 18 * m := by
  obtain ⟨ws, rfl, h⟩ := h
  obtain ⟨gss, h1, h2, h3, _⟩ := sum_g 18 h H
  exact ⟨_, ⟨ws, gss, rfl, h1, rfl⟩, flat_gd h2, h3⟩
theorem wd_g {p : KP} {kn : Kn} (P : KPok p) (hk : ∀ x ∈ kn, nameB x.1 = true) : ∀ (n : Nat) (lo : Int) (m : Nat) (L : List Str) (w : D), lo + n ≤ 9999 → Wd p kn n lo m L w → ∃ ts, WG n w ts ∧ Gd ts ∧ ts.length ≤ 18 * m
  | 0, lo, m, L, w, hlo, h => by
    obtain ⟨ts, h1, h2, h3⟩ := leaf_g P hk (by omega) h.2
    exact ⟨ts, h1, h2, by rw [h.1]; exact h3⟩
  | n + 1, lo, m, L, w, hlo, h => by
    rcases h with ⟨e, h⟩ | ⟨k, d, e, rfl, h⟩ | ⟨k, rs, e, rfl, h1, h⟩
    · obtain ⟨ts, h1, h2, h3⟩ := leaf_g P hk (by omega) h
      exact ⟨ts, .inl h1, h2, by rw [e]; exact h3⟩
    · obtain ⟨g, h1, h2, h3⟩ := rwf_g h fun k L w hw _ => wd_g P hk n (lo + 1) k L w (by omega) hw
      refine ⟨_, .inr (.inl ⟨d, g, rfl, h1, rfl⟩), .cons (tk_lit _ (by decide)) (rows_gd fun x hx => by simp at hx; subst hx; exact h2), ?_⟩
      have := rows_len [g]
      simp at this ⊢
      omega
    · obtain ⟨gs, g1, g2, g3, g4⟩ := sum_g 18 h fun k L d hd _ => rwf_g hd fun k L w hw _ => wd_g P hk n lo k L w (by omega) hw
      refine ⟨_, .inr (.inr ⟨rs, gs, rfl, h1, g1, rfl⟩), .cons (tk_lit _ (by decide)) (rows_gd g2), ?_⟩
      have := rows_len gs
      simp only [List.length_cons]
      omega
theorem wg_head {n : Nat} {w : D} {ts : List Str} (h : WG n w ts) : ∃ k r, ts = k :: r ∧ k ≠ "|" ∧ k ≠ "}" ∧ k ≠ "" := by
  have leaf : LG w ts → ∃ k r, ts = k :: r ∧ k ≠ "|" ∧ k ≠ "}" ∧ k ≠ "" := fun h => by
    cases h with
    | @bx k bs hm _ =>
      refine ⟨k, bs, rfl, fun e => ?_, fun e => ?_, fun e => ?_⟩
      · subst e
        have z : many.lookup (Str.ofString "|") = none := rfl
        rw [z] at hm
        cases hm
      · subst e
        have z : many.lookup (Str.ofString "}") = none := rfl
        rw [z] at hm
        cases hm
      · subst e
        have z : many.lookup (Str.ofString "") = none := rfl
        rw [z] at hm
        cases hm
    | take => exact ⟨_, _, rfl, by decide, by decide, by decide⟩
    | number => exact ⟨_, _, rfl, by decide, by decide, by decide⟩
    | one hk => rcases hk with rfl | rfl | rfl <;> exact ⟨_, _, rfl, by decide, by decide, by decide⟩
    | back => exact ⟨_, _, rfl, by decide, by decide, by decide⟩
    | out => exact ⟨_, _, rfl, by decide, by decide, by decide⟩
    | drop => exact ⟨_, _, rfl, by decide, by decide, by decide⟩
    | call => exact ⟨_, _, rfl, by decide, by decide, by decide⟩
  cases n with
  | zero => exact leaf h
  | succ n =>
    rcases h with h | ⟨_, _, _, _, rfl⟩ | ⟨_, _, _, _, _, rfl⟩
    · exact leaf h
    · exact ⟨_, _, rfl, by decide, by decide, by decide⟩
    · exact ⟨_, _, rfl, by decide, by decide, by decide⟩
theorem gd_T {ts : List Str} (h : Gd ts) : (T ts).length ≤ 21 * ts.length := by
  induction ts with
  | nil => exact Nat.zero_le _
  | cons a r ih =>
    have h1 := (h a List.mem_cons_self).2.1
    have h2 := ih fun t ht => h t (List.mem_cons_of_mem _ ht)
    rw [T_cons, List.length_append, List.length_cons, List.length_cons, ← len_tl]
    omega
end Ds.K06
namespace Ds.K06
open PySem PySem.Spec PyProof.Rows L2 Dn TL
def tokD : D → Str
  | .str x => x
  | .int i => tokI i
  | _ => ""
def simD : D → Prop
  | .str x => Tk x
  | .int i => 0 ≤ i ∧ i ≤ 9999
  | _ => False
/-- a leaf: of parts in a row, or with boxes in brackets -/
theorem LG.cases' {w : D} {ts : List Str} (h : LG w ts) : (∃ (k : Str) (r : List D), w = .tuple (.str k :: r) ∧ k ≠ "choose" ∧ k ≠ "loop" ∧ k ≠ "drop" ∧ k ≠ "call" ∧ Tk k ∧ (∀ d ∈ r, simD d) ∧ r.length ≤ 3 ∧ ts = (.str k :: r).map tokD) ∨
    (∃ bs : List Str, w = .tuple [.str "drop", .tuple (bs.map PyData.str)] ∧ (∀ x ∈ bs, Bk x) ∧ ts = ("drop" : Str) :: gBoxes bs) ∨
    (∃ (x : Str) (as gs : List Str), w = .tuple [.str "call", .str x, .tuple (as.map PyData.str), .tuple (gs.map PyData.str)] ∧ Tk x ∧ (∀ x ∈ as, Bk x) ∧ (∀ x ∈ gs, Bk x) ∧ ts = ("call" : Str) :: x :: (gBoxes as ++ gBoxes gs)) := by
  have two : ∀ {a b : D}, simD a → simD b → ∀ d ∈ [a, b], simD d := fun {a b} h k d hd => by
    simp at hd
    rcases hd with rfl | rfl
    · exact h
    · exact k
  have one : ∀ {a : D}, simD a → ∀ d ∈ [a], simD d := fun {a} h d hd => by simp at hd; subst hd; exact h
  cases h with
  | @bx k bs hm hb =>
    have hk : k ≠ "choose" ∧ k ≠ "loop" ∧ k ≠ "drop" ∧ k ≠ "call" ∧ Tk k ∧ bs.length ≤ 3 := by
      have e : (k, bs.length) ∈ many := by
        have : ∀ l : List (Str × Nat), l.lookup k = some bs.length → (k, bs.length) ∈ l := by
          intro l
          induction l with
          | nil => intro h; cases h
          | cons p l ih =>
            obtain ⟨a, v⟩ := p
            intro h
            rw [List.lookup_cons] at h
            by_cases z : k = a
            · subst z
              simp at h
              subst h
              exact List.mem_cons_self
            · rw [show (k == a) = false by simpa using z] at h
              exact List.mem_cons_of_mem _ (ih h)
        exact this _ hm
      simp only [many, List.mem_cons, Prod.mk.injEq, List.not_mem_nil, or_false] at e
      rcases e with ⟨rfl, e⟩ | ⟨rfl, e⟩ | ⟨rfl, e⟩ | ⟨rfl, e⟩ | ⟨rfl, e⟩ | ⟨rfl, e⟩ <;> exact ⟨by decide, by decide, by decide, by decide, tk_lit _ (by decide), by omega⟩
    refine .inl ⟨k, _, rfl, hk.1, hk.2.1, hk.2.2.1, hk.2.2.2.1, hk.2.2.2.2.1, fun d hd => ?_, by simpa using hk.2.2.2.2.2, ?_⟩
    · obtain ⟨x, hx, rfl⟩ := List.mem_map.mp hd
      exact hb x hx
    · rw [List.map_cons, List.map_map]
      show k :: bs = k :: bs.map (tokD ∘ PyData.str)
      have : (tokD ∘ PyData.str) = id := rfl
      rw [this, List.map_id]
  | take h1 h2 => exact .inl ⟨_, _, rfl, by decide, by decide, by decide, by decide, tk_lit _ (by decide), two h1 h2, by simp, rfl⟩
  | number h1 h2 => exact .inl ⟨_, _, rfl, by decide, by decide, by decide, by decide, tk_lit _ (by decide), two h1 h2, by simp, rfl⟩
  | one h h1 => rcases h with rfl | rfl | rfl <;> exact .inl ⟨_, _, rfl, by decide, by decide, by decide, by decide, tk_lit _ (by decide), one h1, by simp, rfl⟩
  | back => exact .inl ⟨_, [], rfl, by decide, by decide, by decide, by decide, tk_lit _ (by decide), by simp, by simp, rfl⟩
  | out h => exact .inl ⟨_, _, rfl, by decide, by decide, by decide, by decide, tk_lit _ (by decide), one (a := .int _) h, by simp, rfl⟩
  | drop h => exact .inr (.inl ⟨_, rfl, h, rfl⟩)
  | call h1 h2 h3 => exact .inr (.inr ⟨_, _, _, rfl, h1, h2, h3, rfl⟩)
theorem simD_sh {d : D} {n : Nat} (h : simD d) : Sh n d := by
  cases d with
  | str x => exact Sh.str (Tk.ok h)
  | int i => exact Sh.int
  | _ => cases h
theorem sh_cons {n : Nat} {d : D} {ds : List D} (h : Sh n d) (k : ∀ d ∈ ds, Sh n d) : ∀ x ∈ d :: ds, Sh n x := fun x hx => by
  rcases List.mem_cons.mp hx with rfl | hx
  · exact h
  · exact k x hx
theorem sh_nil {n : Nat} : ∀ x ∈ ([] : List D), Sh n x := fun x hx => nomatch hx
theorem bxs_sh {n : Nat} {bs : List Str} (h : ∀ x ∈ bs, Bk x) : Sh (n + 1) (.tuple (bs.map PyData.str)) := Sh.strs (n := 20) fun x hx => (h x hx).1.ok
theorem lg_sh {w : D} {ts : List Str} (h : LG w ts) : Sh 2 w := by
  rcases h.cases' with ⟨k, r, rfl, _, _, _, _, hk, hr, _, _⟩ | ⟨bs, rfl, hb, _⟩ | ⟨x, as, gs, rfl, hx, ha, hg, _⟩
  · exact Sh.tup (sh_cons (Sh.str hk.ok) fun d hd => simD_sh (hr d hd))
  · exact Sh.tup (sh_cons (Sh.str (Ok.lit "drop" 4 (by decide))) (sh_cons (bxs_sh hb) sh_nil))
  · exact Sh.tup (sh_cons (Sh.str (Ok.lit "call" 4 (by decide))) (sh_cons (Sh.str hx.ok) (sh_cons (bxs_sh ha) (sh_cons (bxs_sh hg) sh_nil))))
theorem all2_mem {P : D → List Str → Prop} {ws : List D} {gs : List (List Str)} (h : All2 P ws gs) : ∀ w ∈ ws, ∃ g, P w g ∧ g ∈ gs := by
  induction h with
  | nil => intro w hw; cases hw
  | cons a b ih =>
    intro w hw
    rcases List.mem_cons.mp hw with rfl | hw
    · exact ⟨_, a, List.mem_cons_self⟩
    · obtain ⟨g, h1, h2⟩ := ih w hw
      exact ⟨g, h1, List.mem_cons_of_mem _ h2⟩
theorem rg_sh {P : D → List Str → Prop} {n : Nat} {d : D} {g : List Str} (H : ∀ w ts, P w ts → Sh n w) (h : RG P d g) : Sh (n + 1) d := by
  obtain ⟨ws, gss, rfl, h, _⟩ := h
  refine Sh.tup fun w hw => ?_
  obtain ⟨g, h1, _⟩ := all2_mem h w hw
  exact H _ _ h1
theorem wg_sh : ∀ (n : Nat) (w : D) (ts : List Str), WG n w ts → Sh (3 * n + 2) w
  | 0, w, ts, h => lg_sh h
  | n + 1, w, ts, h => by
    rcases h with h | ⟨d, g, rfl, h, _⟩ | ⟨rs, gs, rfl, _, h, _⟩
    · exact (lg_sh h).mono (by omega)
    · exact (Sh.tup (sh_cons (Sh.str (Ok.lit "loop" 4 (by decide))) (sh_cons (rg_sh (wg_sh n) h) sh_nil))).mono (by omega)
    · refine (Sh.tup (sh_cons (Sh.str (Ok.lit "choose" 6 (by decide))) (sh_cons (n := 3 * n + 4) (Sh.tup (n := 3 * n + 3) fun d hd => ?_) sh_nil))).mono (by omega)
      obtain ⟨g, h1, _⟩ := all2_mem h d hd
      exact rg_sh (wg_sh n) h1
theorem bx_joinL {x : Str} {xs : List D} {ns : List Str} {Q : D → Prop} (e : xs = ns.map PyData.str) (h1 : joinN x ns ≤ 16777216) (h : Q (.str (Txt.join x ns))) : ∃ c, sJoin x [.list xs] = some c ∧ Q c := by subst e; exact bx_join h1 h
theorem bx_joinT {x : Str} {xs : List D} {ns : List Str} {Q : D → Prop} (e : xs = ns.map PyData.str) (h1 : joinN x ns ≤ 16777216) (h : Q (.str (Txt.join x ns))) : ∃ c, sJoin x [.tuple xs] = some c ∧ Q c := by subst e; exact bx_join h1 h
theorem T_ge (ts : List Str) : ts.length ≤ (T ts).length := by
  rw [T_len]
  induction ts with
  | nil => exact Nat.le_refl _
  | cons a r ih => simp only [List.map_cons, List.sum_cons, List.length_cons]; omega
theorem txtJ {ts : List Str} (h : (T ts).length ≤ 1000000) : joinN " " ts ≤ 16777216 := by
  have := joinN_T ts
  omega
/-- parts in a row, texts of tokens -/
theorem partsJ {gs : List (List Str)} (h0 : ∀ g ∈ gs, g ≠ []) (h : (T gs.flatten).length ≤ 1000000) : joinN " " (gs.map txt) ≤ 16777216 := by
  have := joinN_T (gs.map txt)
  rw [T_txts h0] at this
  omega
def ShowS (F : Fn) (P : D → List Str → Prop) : Prop := ∀ {d : D} {g : List Str} {s : St} {Q : Cl → St → Prop}, P d g → (T g).length ≤ 1000000 → (∀ s', Fz s s' → Q (.sh (.str (txt g))) s') → FRun F [.sh d] s Q
def RS (n : Nat) (d : D) (g : List Str) : Prop := ∃ rs gs, d = .tuple rs ∧ All2 (RG (WG n)) rs gs ∧ g = gRows gs
theorem bars_snoc : ∀ (gs : List (List Str)) (g : List Str), bars (gs ++ [g]) = if gs = [] then g else bars gs ++ ("|" : Str) :: g
  | [], g => rfl
  | [a], g => rfl
  | a :: b :: r, g => by
    have := bars_snoc (b :: r) g
    rw [if_neg (by simp)] at this
    rw [if_neg (by simp)]
    show a ++ ("|" : Str) :: bars (b :: r ++ [g]) = a ++ ("|" : Str) :: bars (b :: r) ++ ("|" : Str) :: g
    rw [this]
    simp
theorem bars_sub : ∀ (gs : List (List Str)) (g : List Str), g ∈ gs → (T g).length ≤ (T (bars gs)).length
  | [], g, h => by cases h
  | [a], g, h => by simp at h; subst h; exact Nat.le_refl _
  | a :: b :: r, g, h => by
    have e : bars (a :: b :: r) = a ++ ("|" : Str) :: bars (b :: r) := rfl
    rw [e, T_app, T_cons, List.length_append, List.length_append, List.length_cons]
    rcases List.mem_cons.mp h with rfl | h
    · omega
    · have := bars_sub (b :: r) g h
      omega
theorem bars_take : ∀ (gs : List (List Str)) (i : Nat), (T (bars (gs.take i))).length ≤ (T (bars gs)).length
  | [], i => by simp
  | a :: r, 0 => Nat.zero_le _
  | [a], i + 1 => by simp
  | a :: b :: r, 1 => by
    show (T a).length ≤ (T (a ++ ("|" : Str) :: bars (b :: r))).length
    rw [T_app, List.length_append]
    omega
  | a :: b :: r, i + 2 => by
    have := bars_take (b :: r) (i + 1)
    rw [List.take_succ_cons] at this
    show (T (a ++ ("|" : Str) :: bars (b :: r.take i))).length ≤ (T (a ++ ("|" : Str) :: bars (b :: r))).length
    rw [T_app, T_app, T_cons, T_cons, List.length_append, List.length_append, List.length_append, List.length_append, List.length_cons, List.length_cons]
    omega
theorem T_rows (gs : List (List Str)) : (T (gRows gs)).length = 2 + (T (bars gs)).length + 2 := by
  unfold gRows
  rw [T_cons, T_app, List.length_append, List.length_cons, List.length_append]
  have e1 : (tl ("{" : Str)).length = 1 := by decide
  have e2 : (T [("}" : Str)]).length = 2 := by decide
  rw [e1, e2]
  omega
theorem flat_sub {gss : List (List Str)} {g : List Str} (h : g ∈ gss) : (T g).length ≤ (T gss.flatten).length := by
  induction gss with
  | nil => cases h
  | cons a r ih =>
    rw [List.flatten_cons, T_app, List.length_append]
    rcases List.mem_cons.mp h with rfl | h
    · omega
    · have := ih h
      omega
theorem all2_at {P : D → List Str → Prop} {ws : List D} {gs : List (List Str)} (h : All2 P ws gs) {i : Nat} {w : D} (hw : ws[i]? = some w) : ∃ g, gs[i]? = some g ∧ P w g := by
  induction h generalizing i with
  | nil => simp at hw
  | cons a b ih =>
    cases i with
    | zero => simp at hw; subst hw; exact ⟨_, rfl, a⟩
    | succ i => exact ih hw
theorem all2_len {P : D → List Str → Prop} {ws : List D} {gs : List (List Str)} (h : All2 P ws gs) : ws.length = gs.length := by
  induction h with
  | nil => rfl
  | cons a b ih => simp [ih]
theorem rg_nil {n : Nat} {ws : List D} {g : List Str} (h : RG (WG n) (.tuple ws) g) : ws = [] ↔ g = [] := by
  obtain ⟨ws', gss, e, h, rfl⟩ := h
  cases e
  cases h with
  | nil => simp
  | cons a b =>
    obtain ⟨k, r, rfl, _⟩ := wg_head a
    simp
theorem run_map' {vs : List Nat} {g : MG Cl} {me : M D} {e : Ev} {s : St} {Q : List D → Ev → St → Prop} (ds : List D) (f : D → D)
    (hs : ∀ d ∈ ds, ∃ e1, g (.sh d) e = some e1 ∧ Run me e1 s fun y e3 s3 => y = f d ∧ wipeE e3 vs = e ∧ s3 = s)
    (fin : Q (ds.map f) e s) : Run (compL vs g mYes me ds) e s Q := by
  refine run_compF ds (fun _ => true) f (fun s' => s' = s) rfl (fun d hd s' hs' => ?_) fun s' hs' => ?_
  · subst hs'
    obtain ⟨e1, h1, h2⟩ := hs d hd
    refine ⟨e1, h1, run_yes ⟨rfl, fun _ => h2, fun z => nomatch z⟩⟩
  · subst hs'
    rw [List.filter_eq_self.mpr (by simp)]
    exact fin
theorem strOf_num {i : Int} (h : 0 ≤ i ∧ i ≤ 9999) : bStr [.int i] = some (.str (tokI i)) := by
  have : i.natAbs.log2 < 1920 := by
    by_cases z : i.natAbs = 0
    · rw [z]; decide
    · exact Nat.lt_of_lt_of_le ((Nat.log2_lt z).mpr (show i.natAbs < 2 ^ 14 by omega)) (by decide)
  exact if_pos this
theorem bx_str {d : D} {Q : D → Prop} (h : simD d) (k : Q (.str (tokD d))) : ∃ c, bStr [d] = some c ∧ Q c := by
  cases d with
  | str x => exact ⟨_, rfl, k⟩
  | int i => exact ⟨_, strOf_num h, k⟩
  | _ => cases h
theorem show_boxes {bs : List Str} {s : St} {Q : Cl → St → Prop} (hT : (T (gBoxes bs)).length ≤ 1000000) (h : Q (.sh (.str (txt (gBoxes bs)))) s) : FRun f_show_boxes [.sh (.tuple (bs.map PyData.str))] s Q := by
  have hl := T_ge (gBoxes bs)
  rw [gBoxes_len] at hl
  refine frun_fn rfl ?_
  unfold m_show_boxes
  repeat (first | walk_at "ds" | refine bx_add_tup (line_of (by simp <;> omega)) ?_ | refine bx_add_lst (line_of (by simp <;> omega)) ?_ | refine bx_add_tup (Nat.le_of_ble_eq_true rfl) ?_ | refine bx_add_lst (Nat.le_of_ble_eq_true rfl) ?_ | refine bx_add_str (Nat.le_of_ble_eq_true rfl) ?_ | refine bx_ix_tup rfl ?_)
  refine bx_joinT (ns := gBoxes bs) (by simp [gBoxes]) (txtJ hT) ?_
  rw [join_txt]
  repeat walk_at "ds"
  rw [trim_len rfl]
  exact h
theorem show_rows_s {r : Nat → Fn} {n : Nat} (H : ShowS (r 2) (RG (WG n))) (hn : n ≤ 15) : ShowS (fnF 1 4 (m_show_rows r)) (RS n) := by
  intro d g s Q hd hT h
  obtain ⟨rs, gs, rfl, hA, rfl⟩ := hd
  have hl := all2_len hA
  have hTr := T_rows gs
  have hb := bars_len gs
  have hge := T_ge (gRows gs)
  refine frun_fn rfl ?_
  unfold m_show_rows
  repeat walk_at "ds"
  refine run_forL _ (fun i e s' => ∃ (pl : List (List Str)) (z2 z3 : Cl), (∀ p ∈ pl, p ≠ []) ∧ pl.flatten = ("{" : Str) :: bars (gs.take i) ∧ s'[s.length]? = some (.lst ((pl.map fun p => PyData.str (txt p)).map Cl.sh)) ∧ Fz s s' ∧ e = [.sh (.tuple rs), .lo s.length, z2, z3]) ?_ (fun i d e s' hd hI => ?_) fun e s' hI => ?_
  · exact ⟨[[("{" : Str)]], _, _, by simp, rfl, app_new, Fz.app, rfl⟩
  · obtain ⟨pl, z2, z3, p1, p2, at1, F, rfl⟩ := hI
    rw [enumD_at] at hd
    obtain ⟨w, hw, rfl⟩ := Option.map_eq_some_iff.mp hd
    obtain ⟨g, hg, hR⟩ := all2_at hA hw
    have hsh := rg_sh (wg_sh n) hR
    have hgm := List.mem_of_getElem? hg
    have hTg := bars_sub gs g hgm
    have hgi := (List.getElem?_eq_some_iff.mp hg).1
    have lpl : pl.length ≤ 1000000 := by
      have h1 := T_ge (pl.map txt)
      rw [T_txts p1, p2, List.length_map] at h1
      have h2 : (T ("{" :: bars (gs.take i))).length ≤ (T (gRows gs)).length := by
        rw [hTr, T_cons, List.length_append, List.length_cons]
        have e1 : (tl ("{" : Str)).length = 1 := by decide
        have := bars_take gs i
        rw [e1]
        omega
      omega
    have tk1 : gs.take (i + 1) = gs.take i ++ [g] := by rw [List.take_add_one, hg]; rfl
    refine ⟨_, rfl, ?_⟩
    repeat walk_at "ds"
    refine two_join (fun e s2 => ∃ (pl2 : List (List Str)), (∀ p ∈ pl2, p ≠ []) ∧ pl2.flatten = ("{" : Str) :: (if gs.take i = [] then [] else bars (gs.take i) ++ [("|" : Str)]) ∧ pl2.length ≤ 1000001 ∧ s2[s.length]? = some (.lst ((pl2.map fun p => PyData.str (txt p)).map Cl.sh)) ∧ Fz s s2 ∧ e = [.sh (.tuple rs), .lo s.length, .sh (.int (i : Nat)), .sh w]) (fun h1 => ?_) (fun h1 => ?_) ?_
    · repeat walk_at "ds"
      refine ⟨_, at1, ?_⟩
      repeat walk_at "ds"
      refine ⟨_, at1, line_of (by simp; omega), ?_⟩
      refine ⟨rfl, pl ++ [[("|" : Str)]], fun p hp => ?_, ?_, by simp; omega, ?_, F.put (Nat.le_refl _), rfl⟩
      · rcases List.mem_append.mp hp with hp | hp
        · exact p1 p hp
        · simp at hp; subst hp; simp
      · have h1 : 0 < (i : Int) := of_decide_eq_true h1
        have : gs.take i ≠ [] := by
          intro z
          have := congrArg List.length z
          rw [List.length_take, List.length_nil] at this
          omega
        rw [if_neg this, List.flatten_append, p2]
        simp
      · rw [set_same (lt_of_at at1)]
        simp [txt_one]
    · repeat walk_at "ds"
      refine ⟨rfl, pl, p1, ?_, by omega, at1, F, rfl⟩
      have h1 : ¬ 0 < (i : Int) := of_decide_eq_false h1
      have i0 : i = 0 := by omega
      subst i0
      rw [p2]
      rfl
    rintro e s2 ⟨pl2, q1, q2, q3, at2, F2, rfl⟩
    obtain ⟨ws, gss, rfl, hA2, e2⟩ := hR
    have hnil := rg_nil (n := n) ⟨ws, gss, rfl, hA2, e2⟩
    repeat walk_at "ds"
    refine bx_ne_nil hsh (by omega) ?_
    have fin : ("{" : Str) :: bars (gs.take (i + 1)) = ("{" : Str) :: (if gs.take i = [] then [] else bars (gs.take i) ++ [("|" : Str)]) ++ g := by
      rw [tk1, bars_snoc]
      split
      · simp
      · simp
    cases ws with
    | nil =>
      repeat walk_at "ds"
      have g0 := hnil.mp rfl
      exact ⟨pl2, _, _, q1, by rw [q2, fin, g0, List.append_nil], at2, F2, rfl⟩
    | cons w0 ws =>
      repeat walk_at "ds"
      refine ⟨fun z => by simp at z, fun _ => ?_⟩
      repeat walk_at "ds"
      refine ⟨_, at2, ?_⟩
      repeat walk_at "ds"
      refine H ⟨_, gss, rfl, hA2, e2⟩ (by omega) fun s3 F3 => ?_
      repeat walk_at "ds"
      have at3 := F3.at_ at2
      refine ⟨_, at3, line_of (by simp; omega), ?_⟩
      refine turn_nx ?_
      have g0 : g ≠ [] := fun z => by have := hnil.mpr z; cases this
      refine ⟨pl2 ++ [g], _, _, fun p hp => ?_, by rw [List.flatten_append, q2, fin]; simp, ?_, (F2.trans F3).put (Nat.le_refl _), rfl⟩
      · rcases List.mem_append.mp hp with hp | hp
        · exact q1 p hp
        · simp at hp; subst hp; exact g0
      · rw [set_same (lt_of_at at3)]
        simp
  · obtain ⟨pl, z2, z3, p1, p2, at1, F, rfl⟩ := hI
    rw [show (enumD rs).length = gs.length by unfold enumD; simp [hl], List.take_length] at p2
    refine seq_nx ?_
    have e1 : pl.flatten ++ [("}" : Str)] = gRows gs := by rw [p2]; rfl
    have q1 : ∀ p ∈ pl ++ [[("}" : Str)]], p ≠ [] := fun p hp => by
      rcases List.mem_append.mp hp with hp | hp
      · exact p1 p hp
      · simp at hp; subst hp; simp
    have e2 : (pl ++ [[("}" : Str)]]).flatten = gRows gs := by rw [List.flatten_append, ← e1]; simp
    have lpl : pl.length ≤ 1000000 := by
      have h1 := T_ge ((pl ++ [[("}" : Str)]]).map txt)
      rw [T_txts q1, e2, List.length_map, List.length_append] at h1
      omega
    repeat walk_at "ds"
    refine ⟨_, _, snap_list at1, rfl, line_of (by simp; omega), ?_⟩
    repeat walk_at "ds"
    refine ⟨_, shL_map _, ?_⟩
    refine bx_joinL (ns := (pl ++ [[("}" : Str)]]).map txt) (by simp [txt_one]) (partsJ q1 (by rw [e2]; exact hT)) ?_
    rw [join_txt, txt_txts q1, e2]
    repeat walk_at "ds"
    exact h _ F.trim
theorem show_row_s {r : Nat → Fn} {n : Nat} (H : ShowS (r 1) (WG n)) : ShowS (fnF 1 2 (m_show_row r)) (RG (WG n)) := by
  intro d g s Q hd hT h
  obtain ⟨ws, gss, rfl, hA, rfl⟩ := hd
  have hl := all2_len hA
  have h0 : ∀ g ∈ gss, g ≠ [] := fun g hg => by
    have : ∃ w, WG n w g := by
      clear hT h hl
      induction hA with
      | nil => cases hg
      | cons a b ih =>
        rcases List.mem_cons.mp hg with rfl | hg
        · exact ⟨_, a⟩
        · exact ih hg
    obtain ⟨w, hw⟩ := this
    obtain ⟨k, r, rfl, _⟩ := wg_head hw
    simp
  have hge := T_ge (gss.map txt)
  rw [T_txts h0, List.length_map] at hge
  refine frun_fn rfl ?_
  unfold m_show_row
  repeat walk_at "ds"
  refine ⟨line_of (by omega), ?_⟩
  refine run_compL _ (fun i ys e s' => ys = ((gss.take i).map fun p => PyData.str (txt p)) ∧ Fz s s' ∧ e = [.sh (.tuple ws), .no]) ?_ (fun i d ys e s' hd hJ => ?_) fun ys e s' hJ => ?_
  · exact ⟨by simp, Fz.refl _, rfl⟩
  · obtain ⟨rfl, F, rfl⟩ := hJ
    obtain ⟨g, hg, hR⟩ := all2_at hA hd
    refine ⟨_, rfl, ?_⟩
    repeat walk_at "ds"
    have := flat_sub (List.mem_of_getElem? hg)
    refine H hR (by omega) fun s2 F2 => ?_
    repeat walk_at "ds"
    refine ⟨?_, F.trans F2, rfl⟩
    rw [List.take_add_one, hg]
    simp
  · obtain ⟨rfl, F, rfl⟩ := hJ
    repeat walk_at "ds"
    refine ⟨_, shL_map _, ?_⟩
    repeat walk_at "ds"
    refine bx_joinL (ns := gss.map txt) (by rw [hl, List.take_length, List.map_map]; rfl) (partsJ h0 hT) ?_
    rw [join_txt, txt_txts h0]
    repeat walk_at "ds"
    exact h _ F.trim
theorem show_word_s {r : Nat → Fn} {n : Nat} (H : ∀ n', n = n' + 1 → ShowS (r 0) (RS n')) : ShowS (fnF 1 2 (m_show_word r)) (WG n) := by
  intro d g s Q hd hT h
  have leaf : LG d g → FRun (fnF 1 2 (m_show_word r)) [.sh d] s Q := fun hL => by
    refine frun_fn rfl ?_
    unfold m_show_word
    rcases hL.cases' with ⟨k, r, rfl, k1, k2, k3, k4, hk, hr, hrl, rfl⟩ | ⟨bs, rfl, hb, rfl⟩ | ⟨x, as, gs, rfl, hx, ha, hg, rfl⟩
    · repeat walk_at "ds"
      refine bx_ix_tup atI_zero ?_
      repeat walk_at "ds"
      refine two_dec (fun z => absurd z k1) (fun _ => ?_)
      repeat walk_at "ds"
      refine bx_ix_tup atI_zero ?_
      repeat walk_at "ds"
      refine two_dec (fun z => absurd z k2) (fun _ => ?_)
      repeat walk_at "ds"
      refine bx_ix_tup atI_zero ?_
      repeat walk_at "ds"
      refine two_dec (fun z => absurd z k3) (fun _ => ?_)
      repeat walk_at "ds"
      refine bx_ix_tup atI_zero ?_
      repeat walk_at "ds"
      refine two_dec (fun z => absurd z k4) (fun _ => ?_)
      repeat walk_at "ds"
      refine ⟨line_of (by simp; omega), run_map' _ (fun d => .str (tokD d)) (fun d hd => ⟨_, rfl, ?_⟩) ?_⟩
      · have hd : simD d := by
          rcases List.mem_cons.mp hd with rfl | hd
          · exact hk
          · exact hr d hd
        repeat walk_at "ds"
        refine bx_str hd ?_
        repeat walk_at "ds"
        exact ⟨rfl, rfl, rfl⟩
      repeat walk_at "ds"
      refine ⟨_, shL_map _, ?_⟩
      repeat walk_at "ds"
      refine bx_joinL (ns := (PyData.str k :: r).map tokD) (by rw [List.map_map]; rfl) (txtJ hT) ?_
      rw [join_txt]
      repeat walk_at "ds"
      exact h _ (Fz.refl _).trim
    · have hl := T_ge (("drop" : Str) :: gBoxes bs)
      have e : ("drop " : Str) ++ txt (gBoxes bs) = txt (("drop" : Str) :: gBoxes bs) := txt_of (by
        rw [T_cons, tl_append, List.append_assoc, txt_T (by simp [gBoxes])]
        rfl)
      have hT2 : (T (gBoxes bs)).length ≤ 1000000 := by
        rw [T_cons, List.length_append, List.length_cons] at hT
        omega
      have l1 := len_txt (ts := gBoxes bs)
      have l2 : ("drop " : Str).length = 5 := rfl
      repeat walk_at "ds"
      try refine bx_ix_tup rfl ?_
      repeat walk_at "ds"
      refine show_boxes hT2 ?_
      repeat walk_at "ds"
      rw [e]
      exact h _ (Fz.refl _).trim
    · have e1 : ∀ a b : List Str, a ≠ [] → b ≠ [] → tl (txt a) ++ 32 :: tl (txt b) ++ [32] = T (a ++ b) := fun a b ha hb => by
        rw [T_app, ← txt_T ha, ← txt_T hb]
        simp
      have e : ("call " : Str) ++ x ++ " " ++ txt (gBoxes as) ++ " " ++ txt (gBoxes gs) = txt (("call" : Str) :: x :: (gBoxes as ++ gBoxes gs)) := txt_of (by
        have c1 : tl ("call " : Str) = tl ("call" : Str) ++ [32] := by decide
        have c2 : tl (" " : Str) = [32] := by decide
        rw [T_cons, T_cons, ← e1 (gBoxes as) (gBoxes gs) (by simp [gBoxes]) (by simp [gBoxes])]
        simp only [tl_append, c1, c2]
        simp)
      have hT1 := hT
      rw [T_cons, T_cons, T_app, List.length_append, List.length_cons, List.length_append, List.length_cons, List.length_append] at hT1
      have l1 := len_txt (ts := gBoxes as)
      have l2 := len_txt (ts := gBoxes gs)
      have l3 : ("call " : Str).length = 5 := rfl
      have l4 : (" " : Str).length = 1 := rfl
      have hTa : (T (gBoxes as)).length ≤ 1000000 := by omega
      have hTb : (T (gBoxes gs)).length ≤ 1000000 := by omega
      have l5 := hx.2.1
      repeat (first | walk_at "ds" | refine bx_add_str (line_of (by simp only [len_append]; omega)) ?_ | refine bx_ix_tup rfl ?_)
      refine show_boxes hTa ?_
      repeat (first | walk_at "ds" | refine bx_add_str (line_of (by simp only [len_append]; omega)) ?_ | refine bx_ix_tup rfl ?_)
      refine show_boxes hTb ?_
      repeat (first | walk_at "ds" | refine bx_add_str (line_of (by simp only [len_append]; omega)) ?_ | refine bx_ix_tup rfl ?_)
      rw [e]
      exact h _ (Fz.refl _).trim
  cases n with
  | zero => exact leaf hd
  | succ n =>
    rcases hd with hd | ⟨d, g, rfl, hR, rfl⟩ | ⟨rs, gs, rfl, hl, hR, rfl⟩
    · exact leaf hd
    · have hT1 := hT
      rw [T_cons, List.length_append, List.length_cons] at hT1
      have l1 := len_txt (ts := gRows [g])
      have l2 : ("loop " : Str).length = 5 := rfl
      have e : ("loop " : Str) ++ txt (gRows [g]) = txt (("loop" : Str) :: gRows [g]) := txt_of (by
        rw [T_cons, tl_append, List.append_assoc, txt_T (by simp [gRows])]
        rfl)
      refine frun_fn rfl ?_
      unfold m_show_word
      repeat walk_at "ds"
      try refine bx_ix_tup rfl ?_
      repeat walk_at "ds"
      refine H n rfl ⟨[d], [g], rfl, .cons hR .nil, rfl⟩ (by omega) fun s2 F2 => ?_
      repeat walk_at "ds"
      rw [e]
      exact h _ F2.trim
    · have hT1 := hT
      rw [T_cons, List.length_append, List.length_cons] at hT1
      have l1 := len_txt (ts := gRows gs)
      have l2 : ("choose " : Str).length = 7 := rfl
      have e : ("choose " : Str) ++ txt (gRows gs) = txt (("choose" : Str) :: gRows gs) := txt_of (by
        rw [T_cons, tl_append, List.append_assoc, txt_T (by simp [gRows])]
        rfl)
      refine frun_fn rfl ?_
      unfold m_show_word
      repeat walk_at "ds"
      try refine bx_ix_tup rfl ?_
      repeat walk_at "ds"
      refine H n rfl ⟨rs, gs, rfl, hR, rfl⟩ (by omega) fun s2 F2 => ?_
      repeat walk_at "ds"
      rw [e]
      exact h _ F2.trim
theorem show_gen : ∀ F n : Nat, n ≤ 15 → (3 * n + 3 ≤ F → ShowS (f_G10 F 0) (RS n)) ∧ (3 * n + 1 ≤ F → ShowS (f_G10 F 1) (WG n)) ∧ (3 * n + 2 ≤ F → ShowS (f_G10 F 2) (RG (WG n)))
  | 0, n, _ => ⟨fun h => absurd h (by omega), fun h => absurd h (by omega), fun h => absurd h (by omega)⟩
  | F + 1, n, hn => ⟨fun h => show_rows_s ((show_gen F n hn).2.2 (by omega)) hn, fun h => show_word_s fun n' e => (show_gen F n' (by omega)).1 (by omega), fun h => show_row_s ((show_gen F n hn).2.1 (by omega))⟩
theorem show_rows : ShowS f_show_rows (RS 4) := (show_gen 20 4 (by decide)).1 (by decide)
theorem show_row : ShowS f_show_row (RG (WG 4)) := (show_gen 20 4 (by decide)).2.2 (by decide)
end Ds.K06
namespace Ds.K06
open PySem PySem.Spec PyProof.Rows L2 Dn TL
theorem tl_joinG (sep a : Str) : ∀ ss : List Str, tl (Txt.join sep (a :: ss)) = tl a ++ ss.flatMap fun s => tl sep ++ tl s := by
  intro ss
  show tl (PySem.Builtin.Str.glued _ (a :: ss)) = _
  rw [StrLaws.glued_eq_join]
  induction ss generalizing a with
  | nil => simp [Str.join]
  | cons c r ih =>
    show tl (a ++ sep ++ Str.join sep (c :: r)) = _
    rw [tl_append, tl_append, ih, List.flatMap_cons]
    simp
/-- with a blank behind each -/
def txs (ts : List Str) : Str := ⟨(T ts).toArray⟩
theorem txs_tl (ts : List Str) : tl (txs ts) = T ts := by simp [txs, tl]
theorem txs_len (ts : List Str) : (txs ts).length = (T ts).length := by rw [len_tl, txs_tl]
theorem txs_of {x : Str} {ts : List Str} (h : tl x = T ts) : x = txs ts := ext_tl (by rw [txs_tl, h])
theorem bars_T : ∀ (a : List Str) (gs : List (List Str)), T (bars (a :: gs)) = T a ++ gs.flatMap fun g => tl ("| " : Str) ++ T g
  | a, [] => by simp [bars]
  | a, b :: r => by
    have e : bars (a :: b :: r) = a ++ ("|" : Str) :: bars (b :: r) := rfl
    have c : tl ("| " : Str) = tl ("|" : Str) ++ [32] := by decide
    rw [e, T_app, T_cons, bars_T b r, List.flatMap_cons, c]
    simp
theorem join_bars (gs : List (List Str)) : tl (Txt.join "| " (gs.map txs)) = T (bars gs) := by
  cases gs with
  | nil =>
    have : Txt.join "| " ([] : List Str) = "" := by
      show PySem.Builtin.Str.glued _ [] = _
      rw [StrLaws.glued_eq_join]
      rfl
    show tl (Txt.join "| " []) = _
    rw [this]
    rfl
  | cons a r =>
    rw [List.map_cons, tl_joinG, bars_T, txs_tl]
    congr 1
    rw [List.flatMap_map]
    simp only [txs_tl]
theorem join_boxes (bs : List Str) : tl (Txt.join "" (bs.map fun b => b ++ " ")) = T bs := by
  have : Txt.join "" (bs.map fun b => b ++ " ") = Txt.join Str.empty (bs.map fun b => b ++ " ") := rfl
  rw [this, Dn.tl_join, List.flatMap_map]
  unfold T
  congr 1
  funext b
  rw [tl_append]
  rfl
theorem rep01 {b : Bool} : strRep " " (if b = true then 1 else 0) = if b = true then (" " : Str) else "" := by
  cases b <;> rfl
theorem txt_ne {k : Str} {r : List Str} (h : k ≠ "") : txt (k :: r) ≠ "" := fun z => by
  have ht := txt_T (ts := k :: r) (by simp)
  rw [z, T_cons] at ht
  have := congrArg List.length ht
  have e : (tl ("" : Str)).length = 0 := by decide
  rw [List.length_append, List.length_append, List.length_cons, List.length_cons, e, List.length_nil] at this
  exact h (ext_tl (by
    have h0 : (tl k).length = 0 := by omega
    rw [List.length_eq_zero_iff.mp h0]
    rfl))
theorem part_txs {g : List Str} (h : g = [] ∨ ∃ k r, g = k :: r ∧ k ≠ "") : txt g ++ (if (!decide (txt g = "")) = true then (" " : Str) else "") = txs g := by
  rcases h with rfl | ⟨k, r, rfl, h⟩
  · rw [txt_nil]
    rfl
  · have ht := txt_T (ts := k :: r) (by simp)
    rw [decide_eq_false (txt_ne h)]
    refine txs_of ?_
    rw [← ht, if_pos (show (!false) = true from rfl), tl_append]
    rfl
theorem T_mem : ∀ (bs : List Str), ∀ b ∈ bs, b.length ≤ (T bs).length
  | [], b, hb => by cases hb
  | a :: r, b, hb => by
    rw [T_cons, List.length_append, List.length_cons, ← len_tl]
    rcases List.mem_cons.mp hb with rfl | hb
    · omega
    · have := T_mem r b hb
      omega
theorem bars_ge : ∀ (gs : List (List Str)), gs.length ≤ (bars gs).length + 1
  | [] => by simp
  | [a] => by simp
  | a :: b :: r => by
    have := bars_ge (b :: r)
    show _ ≤ (a ++ ("|" : Str) :: bars (b :: r)).length + 1
    rw [List.length_append, List.length_cons (a := ("|" : Str)), List.length_cons (a := a)]
    omega
theorem joinN_bars (gs : List (List Str)) : joinN "| " (gs.map txs) ≤ (T (bars gs)).length + 2 := by
  have l2 : ("| " : Str).length = 2 := rfl
  have e2 : (tl ("| " : Str)).length = 2 := by decide
  unfold joinN
  rw [l2]
  cases gs with
  | nil => simp
  | cons a r =>
    rw [bars_T, List.length_append]
    simp only [List.map_cons, List.sum_cons, List.length_cons, List.length_map, txs_len]
    have : (r.flatMap fun g => tl ("| " : Str) ++ T g).length = ((r.map txs).map fun x => x.length).sum + r.length * 2 := by
      induction r with
      | nil => rfl
      | cons b r ih =>
        rw [List.flatMap_cons, List.length_append, List.length_append, ih, e2]
        simp only [List.map_cons, List.sum_cons, List.length_cons, txs_len]
        omega
    rw [this]
    omega
theorem rg_head {n : Nat} {d : D} {g : List Str} (h : RG (WG n) d g) : g = [] ∨ ∃ k r, g = k :: r ∧ k ≠ "" := by
  obtain ⟨ws, gss, rfl, hA, rfl⟩ := h
  cases hA with
  | nil => exact .inl rfl
  | cons a b =>
    obtain ⟨k, r, rfl, _, _, hk⟩ := wg_head a
    exact .inr ⟨k, _, rfl, hk⟩
theorem wg_all {n : Nat} {ws : List D} {gss : List (List Str)} (hA : All2 (WG n) ws gss) : ∀ g ∈ gss, g ≠ [] := by
  induction hA with
  | nil => intro g hg; cases hg
  | cons a b ih =>
    intro g hg
    rcases List.mem_cons.mp hg with rfl | hg
    · obtain ⟨k, r, rfl, _⟩ := wg_head a
      simp
    · exact ih g hg
theorem cut2 {a b : D} {rest : List D} : Dn.cutD (a :: b :: rest) (some 2) none = rest := by
  unfold Dn.cutD
  rw [HT.sIx_none, show (some 2 : Option Int) = some ((2 : Nat) : Int) from rfl, HT.sIx_nat, Nat.min_eq_left (by simp)]
  simp
theorem in_brackets {bs : List Str} {s : St} {Q : Cl → St → Prop} (hT : (T (gBoxes bs)).length ≤ 1000000) (h : Q (.sh (.str (txt (gBoxes bs)))) s) : FRun f__law_in_brackets [.sh (.tuple (bs.map PyData.str))] s Q := by
  have hl := T_ge (gBoxes bs)
  rw [gBoxes_len] at hl
  have c1 : tl ("( " : Str) = tl ("(" : Str) ++ [32] := by decide
  have hT2 : (T (gBoxes bs)).length = 2 + ((T bs).length + 2) := by
    unfold gBoxes
    rw [T_cons, T_app, List.length_append, List.length_cons, List.length_append]
    have e1 : (tl ("(" : Str)).length = 1 := by decide
    have e2 : (T [(")" : Str)]).length = 2 := by decide
    rw [e1, e2]
    omega
  have hb := T_mem bs
  have l1 : (" " : Str).length = 1 := rfl
  have l2 : ("( " : Str).length = 2 := rfl
  have l3 : (")" : Str).length = 1 := rfl
  have lj : (Txt.join "" (bs.map fun b => b ++ " ")).length = (T bs).length := by rw [len_tl, join_boxes]
  have e : ("( " : Str) ++ Txt.join "" (bs.map fun b => b ++ " ") ++ ")" = txt (gBoxes bs) := txt_of (by
    rw [tl_append, tl_append, join_boxes, c1]
    unfold gBoxes
    rw [T_cons, T_app, T_cons]
    simp [T])
  refine frun_fn rfl ?_
  unfold m__law_in_brackets
  repeat walk_at "ds"
  refine ⟨line_of (by rw [List.length_map]; omega), run_map' _ (fun d => .str ((match d with | .str x => x | _ => "") ++ " ")) (fun d hd => ⟨_, rfl, ?_⟩) ?_⟩
  · obtain ⟨b, hb', rfl⟩ := List.mem_map.mp hd
    have := hb b hb'
    repeat (first | walk_at "ds" | refine bx_add_str (line_of (by simp only [len_append]; omega)) ?_ | refine bx_ix_tup rfl ?_)
    exact ⟨rfl, rfl, rfl⟩
  repeat walk_at "ds"
  refine ⟨_, shL_map _, ?_⟩
  repeat walk_at "ds"
  refine bx_joinL (ns := bs.map fun b => b ++ " ") (by rw [List.map_map, List.map_map]; rfl) ?_ ?_
  · have : joinN ("" : Str) (bs.map fun b => b ++ " ") = (T bs).length := by
      unfold joinN
      have l0 : ("" : Str).length = 0 := rfl
      rw [T_len, l0, Nat.mul_zero, Nat.add_zero, List.map_map]
      congr 1
      apply List.map_congr_left
      intro b _
      show (b ++ " ").length = _
      rw [len_append, l1]
    omega
  repeat (first | walk_at "ds" | refine bx_add_str (line_of (by simp only [len_append]; omega)) ?_ | refine bx_ix_tup rfl ?_)
  rw [e, trim_len rfl]
  exact h
theorem braced_s {r : Nat → Fn} {n : Nat} (H : ShowS (r 1) (RG (WG n))) : ShowS (fnF 1 4 (m__law_braced r)) (RS n) := by
  intro d g s Q hd hT h
  obtain ⟨rs, gs, rfl, hA, rfl⟩ := hd
  have hl := all2_len hA
  have hTr := T_rows gs
  have hb := bars_len gs
  have hge := T_ge (gRows gs)
  have hgl : gs.length ≤ 1000000 := by
    have h1 := T_ge (bars gs)
    have h2 := bars_ge gs
    omega
  have head : ∀ g ∈ gs, g = [] ∨ ∃ k r, g = k :: r ∧ k ≠ "" := fun g hg => by
    clear hT h hl hTr hb hge hgl
    induction hA with
    | nil => cases hg
    | cons a b ih =>
      rcases List.mem_cons.mp hg with rfl | hg
      · exact rg_head a
      · exact ih hg
  refine frun_fn rfl ?_
  unfold m__law_braced
  repeat walk_at "ds"
  refine ⟨line_of (by omega), ?_⟩
  refine run_compL _ (fun i ys e s' => ys = ((gs.take i).map fun p => PyData.str (txt p)) ∧ Fz s s' ∧ e = [.sh (.tuple rs), .no, .no, .no]) ?_ (fun i d ys e s' hd hJ => ?_) fun ys e s' hJ => ?_
  · exact ⟨by simp, Fz.refl _, rfl⟩
  · obtain ⟨rfl, F, rfl⟩ := hJ
    obtain ⟨g, hg, hR⟩ := all2_at hA hd
    refine ⟨_, rfl, ?_⟩
    repeat walk_at "ds"
    have := bars_sub gs g (List.mem_of_getElem? hg)
    refine H hR (by omega) fun s2 F2 => ?_
    repeat walk_at "ds"
    refine ⟨?_, F.trans F2, rfl⟩
    rw [List.take_add_one, hg]
    simp
  · obtain ⟨rfl, F, rfl⟩ := hJ
    rw [hl, List.take_length]
    repeat walk_at "ds"
    refine ⟨_, shL_map _, ?_⟩
    repeat walk_at "ds"
    refine ⟨line_of (by rw [List.length_map]; omega), ?_⟩
    have l1 : (" " : Str).length = 1 := rfl
    have l0 : ("" : Str).length = 0 := rfl
    have l2 : ("{ " : Str).length = 2 := rfl
    have l3 : ("}" : Str).length = 1 := rfl
    refine run_compL _ (fun i ys e s2 => ys = ((gs.take i).map fun p => PyData.str (txs p)) ∧ s2 = s' ∧ e = [.sh (.tuple rs), .sh (.list (gs.map fun p => PyData.str (txt p))), .no, .no]) ?_ (fun i d ys e s2 hd hJ => ?_) fun ys e s2 hJ => ?_
    · exact ⟨by simp, rfl, rfl⟩
    · obtain ⟨rfl, rfl, rfl⟩ := hJ
      rw [List.getElem?_map] at hd
      obtain ⟨g, hg, rfl⟩ := Option.map_eq_some_iff.mp hd
      have hgm := List.mem_of_getElem? hg
      have hTg := bars_sub gs g hgm
      have hlt := len_txt (ts := g)
      refine ⟨_, rfl, ?_⟩
      repeat walk_at "ds"
      rw [rep01 (b := !decide (txt g = ""))]
      have ln : (if (!decide (txt g = "")) = true then (" " : Str) else "").length ≤ 1 := by split <;> decide
      refine bx_add_str (line_of (by omega)) ?_
      refine ⟨?_, rfl, rfl⟩
      rw [part_txs (head g hgm), List.take_add_one, hg]
      simp
    · obtain ⟨rfl, rfl, rfl⟩ := hJ
      rw [List.length_map, List.take_length]
      repeat walk_at "ds"
      refine ⟨_, shL_map _, ?_⟩
      repeat walk_at "ds"
      have lj : (Txt.join "| " (gs.map txs)).length = (T (bars gs)).length := by rw [len_tl, join_bars]
      have e : ("{ " : Str) ++ Txt.join "| " (gs.map txs) ++ "}" = txt (gRows gs) := txt_of (by
        have c1 : tl ("{ " : Str) = tl ("{" : Str) ++ [32] := by decide
        rw [tl_append, tl_append, join_bars, c1]
        unfold gRows
        rw [T_cons, T_app, T_cons]
        simp [T])
      refine bx_joinL (ns := gs.map txs) (by rw [List.map_map]; rfl) ?_ ?_
      · have := joinN_bars gs
        omega
      repeat (first | walk_at "ds" | refine bx_add_str (line_of (by simp only [len_append]; omega)) ?_ | refine bx_ix_tup rfl ?_)
      rw [e]
      exact h _ F.trim
end Ds.K06
namespace Ds.K06
open PySem PySem.Spec PyProof.Rows L2 Dn TL
def fB : D → D
  | .tuple ds => .str (txt (gBoxes (ds.map tokD)))
  | _ => .none
theorem tokD_map (bs : List Str) : (bs.map PyData.str).map tokD = bs := by
  rw [List.map_map]
  have : (tokD ∘ PyData.str) = id := rfl
  rw [this, List.map_id]
theorem fB_tup (bs : List Str) : fB (.tuple (bs.map PyData.str)) = .str (txt (gBoxes bs)) := by
  show PyData.str (txt (gBoxes ((bs.map PyData.str).map tokD))) = _
  rw [tokD_map]
theorem gB_ne (bs : List Str) : gBoxes bs ≠ [] := by simp [gBoxes]
theorem call_txt (x : Str) (as gs : List Str) : txt [("call" : Str), x, txt (gBoxes as), txt (gBoxes gs)] = txt (("call" : Str) :: x :: (gBoxes as ++ gBoxes gs)) := by
  have h := txt_txts (gs := [[("call" : Str)], [x], gBoxes as, gBoxes gs]) (fun g hg => by
    simp at hg
    rcases hg with rfl | rfl | rfl | rfl
    · simp
    · simp
    · exact gB_ne _
    · exact gB_ne _)
  simp only [List.map_cons, List.map_nil, txt_one, List.flatten_cons, List.flatten_nil, List.append_nil] at h
  rw [h]
  rfl
theorem head_txt (a : Str) {k : Str} {g : List Str} (hk : tl a = tl k ++ [32]) (hg : g ≠ []) : a ++ txt g = txt (k :: g) := txt_of (by
  rw [T_cons, tl_append, List.append_assoc, txt_T hg, hk]
  simp)
def gDef (nm : Str) (ps rs g : List Str) : List Str := ("def" : Str) :: nm :: (gBoxes ps ++ (gBoxes rs ++ gRows [g]))
def gMain (g : List Str) : List Str := ("main" : Str) :: gRows [g]
theorem gR_ne (gs : List (List Str)) : gRows gs ≠ [] := by simp [gRows]
theorem def_txt (nm : Str) (ps rs g : List Str) : txt [("def" : Str), nm, txt (gBoxes ps), txt (gBoxes rs), txt (gRows [g])] = txt (gDef nm ps rs g) := by
  have h := txt_txts (gs := [[("def" : Str)], [nm], gBoxes ps, gBoxes rs, gRows [g]]) (fun g hg => by
    simp at hg
    rcases hg with rfl | rfl | rfl | rfl | rfl
    · simp
    · simp
    · exact gB_ne _
    · exact gB_ne _
    · exact gR_ne _)
  simp only [List.map_cons, List.map_nil, txt_one, List.flatten_cons, List.flatten_nil, List.append_nil] at h
  rw [h]
  simp [gDef]
theorem def_txt2 (nm : Str) (ps rs g : List Str) : ("def " : Str) ++ nm ++ " " ++ txt (gBoxes ps) ++ " " ++ txt (gBoxes rs) ++ " " ++ txt (gRows [g]) = txt (gDef nm ps rs g) := txt_of (by
  have c1 : tl ("def " : Str) = tl ("def" : Str) ++ [32] := by decide
  have c2 : tl (" " : Str) = [32] := by decide
  unfold gDef
  rw [T_cons, T_cons, T_app, T_app, ← txt_T (gB_ne ps), ← txt_T (gB_ne rs), ← txt_T (gR_ne [g])]
  simp only [tl_append, c1, c2]
  simp)
theorem law_text_s {r : Nat → Fn} {n : Nat} (H : ∀ n', n = n' + 1 → ShowS (r 0) (RS n')) : ShowS (fnF 1 6 (m__law_text r)) (RG (WG n)) := by
  intro d g s Q hd hT h
  obtain ⟨ws, gss, rfl, hA, rfl⟩ := hd
  have hl := all2_len hA
  have h0 := wg_all hA
  have hge := T_ge (gss.map txt)
  rw [T_txts h0, List.length_map] at hge
  refine frun_fn rfl ?_
  unfold m__law_text
  repeat walk_at "ds"
  refine run_forL _ (fun i e s' => ∃ z2 z3 : Cl, s'[s.length]? = some (.lst ((((gss.take i).map txt).map PyData.str).map Cl.sh)) ∧ Fz s s' ∧ e = [.sh (.tuple ws), .lo s.length, z2, z3, .no, .no]) ?_ (fun i d e s' hd hI => ?_) fun e s' hI => ?_
  · exact ⟨_, _, app_new, Fz.app, rfl⟩
  · obtain ⟨z2, z3, at1, F, rfl⟩ := hI
    obtain ⟨g, hg, hW⟩ := all2_at hA hd
    have hTg := flat_sub (List.mem_of_getElem? hg)
    have hgi := (List.getElem?_eq_some_iff.mp hg).1
    have tk1 : ((gss.take i).map txt).map PyData.str ++ [.str (txt g)] = ((gss.take (i + 1)).map txt).map PyData.str := by
      rw [List.take_add_one, hg]
      simp
    have ll : (((gss.take i).map txt).map PyData.str).length ≤ 1000000 := by simp; omega
    have fin : ∀ (z2 z3 : Cl) (s2 : St), s2[s.length]? = some (.lst ((((gss.take i).map txt).map PyData.str).map Cl.sh)) → Fz s s2 →
        ∃ z2' z3' : Cl, (s2.set s.length (.lst ((((gss.take i).map txt).map PyData.str).map Cl.sh ++ [Cl.sh (.str (txt g))])))[s.length]? = some (.lst ((((gss.take (i + 1)).map txt).map PyData.str).map Cl.sh)) ∧ Fz s (s2.set s.length (.lst ((((gss.take i).map txt).map PyData.str).map Cl.sh ++ [Cl.sh (.str (txt g))]))) ∧ ([.sh (.tuple ws), .lo s.length, z2, z3, .no, .no] : Ev) = [.sh (.tuple ws), .lo s.length, z2', z3', .no, .no] := fun z2 z3 s2 a f => by
      refine ⟨_, _, ?_, f.put (Nat.le_refl _), rfl⟩
      rw [set_same (lt_of_at a), ← tk1]
      simp
    refine ⟨_, rfl, ?_⟩
    have leaf : LG d g → Run (mIfS (mTest (mBin dEq (mBin dIx (mVar 2) (mC (PyData.int 0))) (mC (PyData.str "choose")))) (mApp (mLV 1) (mSh (mBin dAdd (mC (PyData.str "choose ")) (mD (mCall (r 0) [(mSh (mBin dIx (mVar 2) (mC (PyData.int 1))))]))))) (mIfS (mTest (mBin dEq (mBin dIx (mVar 2) (mC (PyData.int 0))) (mC (PyData.str "loop")))) (mApp (mLV 1) (mSh (mBin dAdd (mC (PyData.str "loop ")) (mD (mCall (r 0) [(mSh (mTup [(mSh (mBin dIx (mVar 2) (mC (PyData.int 1))))]))]))))) (mIfS (mTest (mBin dEq (mBin dIx (mVar 2) (mC (PyData.int 0))) (mC (PyData.str "drop")))) (mApp (mLV 1) (mSh (mBin dAdd (mC (PyData.str "drop ")) (mD (mCall f__law_in_brackets [(mSh (mBin dIx (mVar 2) (mC (PyData.int 1))))]))))) (mIfS (mTest (mBin dEq (mBin dIx (mVar 2) (mC (PyData.int 0))) (mC (PyData.str "call")))) (mSeq (mSet 3 (mSh (mFr (mComp (mIter (mSl (mVar 2) (mPart (mC (PyData.int 2))) mNoPart)) [4] (mgName 4) mYes (mD (mCall f__law_in_brackets [(mSh (mVar 4))]))))))
        (mApp (mLV 1) (mSh (mM1 sJoin (mC (PyData.str " ")) (mBin dAdd (mLst [(mSh (mC (PyData.str "call"))), (mSh (mBin dIx (mVar 2) (mC (PyData.int 1))))]) (mVar 3)))))) (mApp (mLV 1) (mSh (mM1 sJoin (mC (PyData.str " ")) (mFr (mComp (mIter (mVar 2)) [5] (mgName 5) mYes (mCallB bStr [(mSh (mVar 5))])))))))))) [.sh (.tuple ws), .lo s.length, .sh d, z3, .no, .no] s' (fun fl e2 s2 => fl = .nx ∧ ∃ (z2 z3 : Cl) (s3 : St), s3[s.length]? = some (.lst ((((gss.take i).map txt).map PyData.str).map Cl.sh)) ∧ Fz s s3 ∧ s2 = s3.set s.length (.lst ((((gss.take i).map txt).map PyData.str).map Cl.sh ++ [Cl.sh (.str (txt g))])) ∧ e2 = [.sh (.tuple ws), .lo s.length, z2, z3, .no, .no]) := fun hL => by
      rcases hL.cases' with ⟨k, r, rfl, k1, k2, k3, k4, hk, hr, hrl, rfl⟩ | ⟨bs, rfl, hb, rfl⟩ | ⟨x, as, gs, rfl, hx, ha, hg', rfl⟩
      · repeat walk_at "ds"
        refine bx_ix_tup atI_zero ?_
        repeat walk_at "ds"
        refine two_dec (fun z => absurd z k1) (fun _ => ?_)
        repeat walk_at "ds"
        refine bx_ix_tup atI_zero ?_
        repeat walk_at "ds"
        refine two_dec (fun z => absurd z k2) (fun _ => ?_)
        repeat walk_at "ds"
        refine bx_ix_tup atI_zero ?_
        repeat walk_at "ds"
        refine two_dec (fun z => absurd z k3) (fun _ => ?_)
        repeat walk_at "ds"
        refine bx_ix_tup atI_zero ?_
        repeat walk_at "ds"
        refine two_dec (fun z => absurd z k4) (fun _ => ?_)
        repeat walk_at "ds"
        refine ⟨_, at1, ?_⟩
        repeat walk_at "ds"
        refine ⟨line_of (by simp; omega), run_map' _ (fun d => .str (tokD d)) (fun d hd => ⟨_, rfl, ?_⟩) ?_⟩
        · have hd : simD d := by
            rcases List.mem_cons.mp hd with rfl | hd
            · exact hk
            · exact hr d hd
          repeat walk_at "ds"
          refine bx_str hd ?_
          repeat walk_at "ds"
          exact ⟨rfl, rfl, rfl⟩
        repeat walk_at "ds"
        refine ⟨_, shL_map _, ?_⟩
        repeat walk_at "ds"
        refine bx_joinL (ns := (PyData.str k :: r).map tokD) (by rw [List.map_map]; rfl) (txtJ (by omega)) ?_
        rw [join_txt]
        repeat walk_at "ds"
        refine ⟨_, at1, line_of (by simp at ll ⊢; omega), ?_⟩
        exact ⟨rfl, _, _, s', at1, F, rfl, rfl⟩
      · have hT2 : (T (gBoxes bs)).length ≤ 1000000 := by
          rw [T_cons, List.length_append, List.length_cons] at hTg
          omega
        have l1 := len_txt (ts := gBoxes bs)
        have l2 : ("drop " : Str).length = 5 := rfl
        repeat walk_at "ds"
        try refine bx_ix_tup rfl ?_
        repeat walk_at "ds"
        refine ⟨_, at1, ?_⟩
        repeat walk_at "ds"
        try refine bx_ix_tup rfl ?_
        repeat walk_at "ds"
        refine in_brackets hT2 ?_
        repeat (first | walk_at "ds" | refine bx_add_str (line_of (by simp only [len_append]; omega)) ?_ | refine bx_ix_tup rfl ?_)
        rw [head_txt ("drop " : Str) (k := "drop") (by decide) (gB_ne bs)]
        refine ⟨_, at1, line_of (by simp at ll ⊢; omega), ?_⟩
        exact ⟨rfl, _, _, s', at1, F, rfl, rfl⟩
      · have hT2 : (T (gBoxes as)).length ≤ 1000000 ∧ (T (gBoxes gs)).length ≤ 1000000 := by
          rw [T_cons, T_cons, T_app, List.length_append, List.length_cons, List.length_append, List.length_cons, List.length_append] at hTg
          omega
        repeat walk_at "ds"
        try refine bx_ix_tup rfl ?_
        repeat walk_at "ds"
        rw [cut2]
        repeat walk_at "ds"
        try refine ⟨Nat.le_of_ble_eq_true rfl, ?_⟩
        refine run_map' _ fB (fun d hd => ⟨_, rfl, ?_⟩) ?_
        · have : ∃ bs, d = .tuple (bs.map PyData.str) ∧ (T (gBoxes bs)).length ≤ 1000000 := by
            simp at hd
            rcases hd with rfl | rfl
            · exact ⟨_, rfl, hT2.1⟩
            · exact ⟨_, rfl, hT2.2⟩
          obtain ⟨bs, rfl, hb⟩ := this
          repeat walk_at "ds"
          refine in_brackets hb ?_
          repeat walk_at "ds"
          exact ⟨(fB_tup bs).symm, rfl, rfl⟩
        repeat walk_at "ds"
        try refine ⟨_, shL_map _, ?_⟩
        repeat walk_at "ds"
        refine ⟨_, at1, ?_⟩
        repeat walk_at "ds"
        try refine bx_ix_tup rfl ?_
        repeat walk_at "ds"
        try refine bx_add_lst (Nat.le_of_ble_eq_true rfl) ?_
        have l1 := len_txt (ts := gBoxes as)
        have l2 := len_txt (ts := gBoxes gs)
        have l3 := hx.2.1
        refine bx_joinL (ns := [("call" : Str), x, txt (gBoxes as), txt (gBoxes gs)]) (by simp [fB_tup]) ?_ ?_
        · have l4 : ("call" : Str).length = 4 := rfl
          have l5 : (" " : Str).length = 1 := rfl
          simp only [joinN, List.map_cons, List.map_nil, List.sum_cons, List.sum_nil, List.length_cons, List.length_nil, l4, l5]
          omega
        rw [join_txt, call_txt]
        repeat walk_at "ds"
        refine ⟨_, at1, line_of (by simp at ll ⊢; omega), ?_⟩
        exact ⟨rfl, _, _, s', at1, F, rfl, rfl⟩
    have body : ∀ {m : M Fl} {e0 : Ev}, Run m e0 s' (fun fl e2 s2 => fl = .nx ∧ ∃ (z2 z3 : Cl) (s3 : St), s3[s.length]? = some (.lst ((((gss.take i).map txt).map PyData.str).map Cl.sh)) ∧ Fz s s3 ∧ s2 = s3.set s.length (.lst ((((gss.take i).map txt).map PyData.str).map Cl.sh ++ [Cl.sh (.str (txt g))])) ∧ e2 = [.sh (.tuple ws), .lo s.length, z2, z3, .no, .no]) →
        Run m e0 s' fun fl e2 s2 => (fl = .nx ∨ fl = .ct → ∃ z2 z3 : Cl, s2[s.length]? = some (.lst ((((gss.take (i + 1)).map txt).map PyData.str).map Cl.sh)) ∧ Fz s s2 ∧ e2 = [.sh (.tuple ws), .lo s.length, z2, z3, .no, .no]) ∧ (fl = .bk → False) ∧ (∀ c, fl = .rt c → False) := fun {m e0} hm => hm.mono fun fl e2 s2 ⟨h1, z2, z3, s3, h2, h3, h4, h5⟩ => by
      subst h1 h4 h5
      exact ⟨fun _ => fin z2 z3 s3 h2 h3, (fun z => nomatch z), (fun c z => nomatch z)⟩
    have up : ∀ {m : M Fl} {e0 : Ev} {Q2 : Fl → Ev → St → Prop}, (Run m e0 s' fun fl e2 s2 => (fl = .nx ∨ fl = .ct → ∃ z2 z3 : Cl, s2[s.length]? = some (.lst ((((gss.take (i + 1)).map txt).map PyData.str).map Cl.sh)) ∧ Fz s s2 ∧ e2 = [.sh (.tuple ws), .lo s.length, z2, z3, .no, .no]) ∧ (fl = .bk → False) ∧ (∀ c, fl = .rt c → False)) →
        (∀ fl e2 s2, ((fl = .nx ∨ fl = .ct → ∃ z2 z3 : Cl, s2[s.length]? = some (.lst ((((gss.take (i + 1)).map txt).map PyData.str).map Cl.sh)) ∧ Fz s s2 ∧ e2 = [.sh (.tuple ws), .lo s.length, z2, z3, .no, .no]) ∧ (fl = .bk → False) ∧ (∀ c, fl = .rt c → False)) → Q2 fl e2 s2) → Run m e0 s' Q2 := fun h k => h.mono k
    refine up (body ?_) fun fl e2 s2 ⟨a, b, c⟩ => ⟨a, fun z => (b z).elim, fun x z => (c x z).elim⟩
    cases n with
    | zero => exact leaf hW
    | succ n =>
      rcases hW with hW | ⟨d', g', rfl, hR, rfl⟩ | ⟨rs, gs, rfl, hrl, hR, rfl⟩
      · exact leaf hW
      · have hT1 : (T (gRows [g'])).length ≤ 1000000 := by
          rw [T_cons, List.length_append, List.length_cons] at hTg
          omega
        have l1 := len_txt (ts := gRows [g'])
        have l2 : ("loop " : Str).length = 5 := rfl
        clear leaf body up
        repeat walk_at "ds"
        try refine bx_ix_tup rfl ?_
        repeat walk_at "ds"
        refine ⟨_, at1, ?_⟩
        repeat walk_at "ds"
        try refine bx_ix_tup rfl ?_
        repeat walk_at "ds"
        refine H n rfl ⟨[d'], [g'], rfl, .cons hR .nil, rfl⟩ hT1 fun s2 F2 => ?_
        repeat (first | walk_at "ds" | refine bx_add_str (line_of (by simp only [len_append]; omega)) ?_ | refine bx_ix_tup rfl ?_)
        rw [head_txt ("loop " : Str) (k := "loop") (by decide) (gR_ne [g'])]
        refine ⟨_, F2.at_ at1, line_of (by simp at ll ⊢; omega), ?_⟩
        exact ⟨rfl, _, _, s2, F2.at_ at1, F.trans F2, rfl, rfl⟩
      · have hT1 : (T (gRows gs)).length ≤ 1000000 := by
          rw [T_cons, List.length_append, List.length_cons] at hTg
          omega
        have l1 := len_txt (ts := gRows gs)
        have l2 : ("choose " : Str).length = 7 := rfl
        clear leaf body up
        repeat walk_at "ds"
        try refine bx_ix_tup rfl ?_
        repeat walk_at "ds"
        refine ⟨_, at1, ?_⟩
        repeat walk_at "ds"
        try refine bx_ix_tup rfl ?_
        repeat walk_at "ds"
        refine H n rfl ⟨rs, gs, rfl, hR, rfl⟩ hT1 fun s2 F2 => ?_
        repeat (first | walk_at "ds" | refine bx_add_str (line_of (by simp only [len_append]; omega)) ?_ | refine bx_ix_tup rfl ?_)
        rw [head_txt ("choose " : Str) (k := "choose") (by decide) (gR_ne gs)]
        refine ⟨_, F2.at_ at1, line_of (by simp at ll ⊢; omega), ?_⟩
        exact ⟨rfl, _, _, s2, F2.at_ at1, F.trans F2, rfl, rfl⟩
  · obtain ⟨z2, z3, at1, F, rfl⟩ := hI
    rw [hl, List.take_length] at at1
    refine seq_nx ?_
    repeat walk_at "ds"
    refine ⟨_, snap_list at1, ?_⟩
    refine bx_joinO (partsJ h0 hT) ?_
    rw [join_txt, txt_txts h0]
    repeat walk_at "ds"
    exact h _ F.trim
theorem law_gen : ∀ F n : Nat, (2 * n + 2 ≤ F → ShowS (f_G33 F 0) (RS n)) ∧ (2 * n + 1 ≤ F → ShowS (f_G33 F 1) (RG (WG n)))
  | 0, n => ⟨fun h => absurd h (by omega), fun h => absurd h (by omega)⟩
  | F + 1, n => ⟨fun h => braced_s ((law_gen F n).2 (by omega)), fun h => law_text_s fun n' e => (law_gen F n').1 (by omega)⟩
theorem law_braced : ShowS f__law_braced (RS 4) := (law_gen 14 4).1 (by decide)
theorem law_text : ShowS f__law_text (RG (WG 4)) := (law_gen 14 4).2 (by decide)
end Ds.K06
namespace Ds.K06
open PySem PySem.Spec PyProof.Rows L2 Dn TL
def DG (d : D) (ts : List Str) : Prop := ∃ (nm : Str) (ps rs : List Str) (row : D) (g : List Str), d = .tuple [.str nm, .tuple (ps.map PyData.str), .tuple (rs.map PyData.str), row] ∧ Bk nm ∧ (∀ x ∈ ps, Bk x) ∧ (∀ x ∈ rs, Bk x) ∧ RG (WG 4) row g ∧ ts = gDef nm ps rs g
theorem def_T {nm : Str} {ps rs g : List Str} (h : (T (gDef nm ps rs g)).length ≤ 1000000) : (T (gBoxes ps)).length ≤ 1000000 ∧ (T (gBoxes rs)).length ≤ 1000000 ∧ (T (gRows [g])).length ≤ 1000000 ∧ nm.length + (T (gBoxes ps)).length + (T (gBoxes rs)).length + (T (gRows [g])).length ≤ 1000000 := by
  unfold gDef at h
  rw [T_cons, T_cons, T_app, T_app, List.length_append, List.length_cons, List.length_append, List.length_cons, List.length_append, List.length_append, ← len_tl nm] at h
  omega
theorem joinN_lines (gs : List (List Str)) (K : Nat) (h : ∀ g ∈ gs, (T g).length ≤ K) : joinN "\n" (gs.map txt) ≤ gs.length * (K + 1) := by
  have l : ("\n" : Str).length = 1 := rfl
  unfold joinN
  rw [l]
  induction gs with
  | nil => simp
  | cons a r ih =>
    have h1 := h a List.mem_cons_self
    have h2 := ih fun g hg => h g (List.mem_cons_of_mem _ hg)
    have h3 := len_txt (ts := a)
    simp only [List.map_cons, List.sum_cons, List.length_cons, List.length_map] at h2 ⊢
    have e : (r.length + 1) * (K + 1) = r.length * (K + 1) + (K + 1) := by rw [Nat.add_mul, Nat.one_mul]
    rw [e]
    simp only [Nat.mul_one] at h2 ⊢
    omega
/-- a program's lines -/
structure PG (defs : List D) (main : D) (gds : List (List Str)) (gm : List Str) : Prop where
  defs : All2 DG defs gds
  main : RG (WG 4) main gm
  six : gds.length ≤ 6
  sz : ∀ g ∈ gds, (T g).length ≤ 1000000
  sm : (T (gMain gm)).length ≤ 1000000
def lines (gds : List (List Str)) (gm : List Str) : List Str := (gds ++ [gMain gm]).map txt
def text (gds : List (List Str)) (gm : List Str) : Str := Txt.join "\n" (lines gds gm)
theorem PG.join {defs : List D} {main : D} {gds : List (List Str)} {gm : List Str} (h : PG defs main gds gm) : joinN "\n" (lines gds gm) ≤ 16777216 := by
  have := joinN_lines (gds ++ [gMain gm]) 1000000 fun g hg => by
    rcases List.mem_append.mp hg with hg | hg
    · exact h.sz g hg
    · simp at hg; subst hg; exact h.sm
  have h6 := h.six
  rw [List.length_append] at this
  have h7 : (gds.length + [gMain gm].length) * (1000000 + 1) ≤ 7 * 1000001 := Nat.mul_le_mul_right _ (by simp; omega)
  exact Nat.le_trans this (Nat.le_trans h7 (by decide))
theorem main_T {g : List Str} (h : (T (gMain g)).length ≤ 1000000) : (T (gRows [g])).length ≤ 1000000 := by
  unfold gMain at h
  rw [T_cons, List.length_append, List.length_cons] at h
  omega
theorem run_augF {e : Ev} {s : St} {c f : Str} {ml : M Nat} {F : Int → Int → Int} {k : Int} {Q : Fl → Ev → St → Prop} (h : Run ml e s fun l e1 s1 => ∃ fs i, s1[l]? = some (.ins c fs) ∧ fs.length < 1000 ∧ fs.lookup f = some (.sh (.int i)) ∧ Q .nx e1 (s1.set l (.ins c (putFC f (.sh (.int (F i k))) fs)))) : Run (mAugF c ml f F k) e s Q :=
  run_bind (h.mono fun l _ _ ⟨fs, i, h1, h2, h3, h4⟩ => Run.i (by
    dsimp only
    rw [h1]
    dsimp only
    rw [if_pos ⟨rfl, h2⟩, h3]
    exact h4))
theorem run_kget2 {e : Ev} {s : St} {kvs : List (Str × D)} {m mz : M D} {Q : D → Ev → St → Prop} (h : Run m e s fun d e1 s1 => Run mz e1 s1 fun z e2 s2 => ∃ x, toS d = some x ∧ Q ((lookS kvs x).getD z) e2 s2) : Run (mKGet2 kvs m mz) e s Q :=
  run_bind (h.mono fun _ _ _ h => run_bind (h.mono fun _ _ _ ⟨x, a, b⟩ => run_opt ⟨_, by rw [a]; rfl, b⟩))
theorem run_isi2 {e : Ev} {s : St} {A B : String} {m : M D} {Q : D → Ev → St → Prop} (h : Run m e s fun d e1 s1 => ∃ b, isi2 A B d = some b ∧ Q (.bool b) e1 s1) : Run (mIsi2 A B m) e s Q :=
  run_bind (h.mono fun _ _ _ ⟨b, h1, h2⟩ => run_opt ⟨_, by rw [h1]; rfl, h2⟩)
def lnO (ts : List Str) (i : Nat) (k : Int) : Ob := .ins "Line" [("groups", .sh (.list (ts.map PyData.str))), ("reached", .sh (.int (i : Int))), ("braces", .sh (.int k))]
def hdS : List Str → Str
  | [] => ""
  | t :: _ => t
theorem ix_at {ts : List Str} {i : Nat} {t : Str} {r : List Str} (h : ts.drop i = t :: r) : atI (ts.map PyData.str) (i : Int) = some (.str t) := by
  have hi : i < ts.length := by
    by_cases z : i < ts.length
    · exact z
    · rw [List.drop_eq_nil_of_le (by omega)] at h; cases h
  have e : ts[i]? = some t := by
    rw [List.drop_eq_getElem_cons hi] at h
    rw [List.getElem?_eq_getElem hi, (List.cons.inj h).1]
  unfold atI ixN
  rw [if_pos (by omega), List.length_map, if_pos (by omega)]
  show (ts.map PyData.str)[(i : Int).toNat]? = _
  rw [Int.toNat_natCast, List.getElem?_map, e]
  rfl
theorem drop_one {ts : List Str} {i : Nat} {t : Str} {r : List Str} (h : ts.drop i = t :: r) : ts.drop (i + 1) = r := by
  rw [← List.tail_drop, h]
  rfl
theorem Fr.set' {l : Nat} {o : Ob} {s s' : St} (h : Fr l s s') : Fr l s (s'.set l o) := h.trans Fr.set
theorem show_def : ShowS f_show_def DG := by
  intro d g s Q hd hT h
  obtain ⟨nm, ps, rs, row, g', rfl, hn, hp, hr, hR, rfl⟩ := hd
  obtain ⟨t1, t2, t3, t4⟩ := def_T hT
  have l1 := len_txt (ts := gBoxes ps)
  have l2 := len_txt (ts := gBoxes rs)
  have l3 := len_txt (ts := gRows [g'])
  have l4 : ("def " : Str).length = 4 := rfl
  have l5 : (" " : Str).length = 1 := rfl
  have l6 := hn.1.2.1
  refine frun_fn rfl ?_
  unfold m_show_def
  repeat (first | walk_at "ds" | refine bx_add_str (line_of (by simp only [len_append]; omega)) ?_ | refine bx_ix_tup rfl ?_)
  refine show_boxes t1 ?_
  repeat (first | walk_at "ds" | refine bx_add_str (line_of (by simp only [len_append]; omega)) ?_ | refine bx_ix_tup rfl ?_)
  refine show_boxes t2 ?_
  repeat (first | walk_at "ds" | refine bx_add_str (line_of (by simp only [len_append]; omega)) ?_ | refine bx_ix_tup rfl ?_)
  refine show_rows ⟨[row], [g'], rfl, .cons hR .nil, rfl⟩ t3 fun s2 F2 => ?_
  repeat (first | walk_at "ds" | refine bx_add_str (line_of (by simp only [len_append]; omega)) ?_ | refine bx_ix_tup rfl ?_)
  rw [def_txt2]
  exact h _ F2.trim
theorem show_program {defs : List D} {main : D} {gds : List (List Str)} {gm : List Str} {s : St} {Q : Cl → St → Prop} (hP : PG defs main gds gm) (h : ∀ s', Fz s s' → Q (.sh (.str (text gds gm))) s') : FRun f_show_program [.sh (.tuple [.tuple defs, main])] s Q := by
  have hl := all2_len hP.defs
  have h6 := hP.six
  refine frun_fn rfl ?_
  unfold m_show_program
  repeat walk_at "ds"
  try refine bx_ix_tup rfl ?_
  repeat walk_at "ds"
  refine ⟨line_of (by omega), ?_⟩
  refine run_compL _ (fun i ys e s' => ys = ((gds.take i).map fun p => PyData.str (txt p)) ∧ Fz s s' ∧ e = [.sh (.tuple [.tuple defs, main]), .no, .no]) ?_ (fun i d ys e s' hd hJ => ?_) fun ys e s' hJ => ?_
  · exact ⟨by simp, Fz.refl _, rfl⟩
  · obtain ⟨rfl, F, rfl⟩ := hJ
    obtain ⟨g, hg, hR⟩ := all2_at hP.defs hd
    refine ⟨_, rfl, ?_⟩
    repeat walk_at "ds"
    refine show_def hR (hP.sz g (List.mem_of_getElem? hg)) fun s2 F2 => ?_
    repeat walk_at "ds"
    refine ⟨?_, F.trans F2, rfl⟩
    rw [List.take_add_one, hg]
    simp
  · obtain ⟨rfl, F, rfl⟩ := hJ
    rw [hl, List.take_length]
    have l1 := len_txt (ts := gRows [gm])
    have t1 := main_T hP.sm
    have l2 : ("main " : Str).length = 5 := rfl
    repeat walk_at "ds"
    refine ⟨_, shL_map _, ?_⟩
    repeat walk_at "ds"
    try refine bx_ix_tup rfl ?_
    repeat walk_at "ds"
    refine show_rows ⟨[main], [gm], rfl, .cons hP.main .nil, rfl⟩ t1 fun s2 F2 => ?_
    repeat (first | walk_at "ds" | refine bx_add_str (line_of (by simp only [len_append]; omega)) ?_ | refine bx_ix_tup rfl ?_)
    rw [head_txt ("main " : Str) (k := "main") (by decide) (gR_ne [gm])]
    refine bx_add_lst (line_of (by simp; omega)) ?_
    refine bx_joinL (ns := lines gds gm) (by simp [lines, gMain]) hP.join ?_
    repeat walk_at "ds"
    exact h _ (F.trans F2).trim
theorem group_ahead {ts : List Str} {i l : Nat} {k : Int} {s : St} {Q : Cl → St → Prop} (hs : s[l]? = some (lnO ts i k)) (hi : i ≤ ts.length) (h : Q (.sh (.str (hdS (ts.drop i)))) s) : FRun f_Line_group_ahead [.lo l] s Q := by
  refine frun_fn rfl ?_
  unfold m_Line_group_ahead
  repeat walk_at "ds"
  refine ⟨_, _, hs, rfl, ?_⟩
  repeat walk_at "ds"
  refine ⟨_, _, hs, rfl, ?_⟩
  repeat walk_at "ds"
  rw [List.length_map]
  refine two_dec (fun h1 => ?_) (fun h1 => ?_)
  · repeat walk_at "ds"
    rw [List.drop_eq_nil_of_le (by omega)] at h
    rw [trim_len rfl]
    exact h
  · cases hd : ts.drop i with
    | nil =>
      have := congrArg List.length hd
      rw [List.length_drop] at this
      simp at this
      exact absurd (show (i : Int) = (ts.length : Int) by omega) h1
    | cons t r =>
      repeat walk_at "ds"
      refine ⟨_, _, hs, rfl, ?_⟩
      repeat walk_at "ds"
      refine ⟨_, _, hs, rfl, ?_⟩
      repeat walk_at "ds"
      refine bx_ix_lst (ix_at hd) ?_
      rw [hd] at h
      repeat walk_at "ds"
      rw [trim_len rfl]
      exact h
theorem drop_lt {ts : List Str} {i : Nat} {t : Str} {r : List Str} (hd : ts.drop i = t :: r) : i ≤ ts.length := by
  by_cases z : i ≤ ts.length
  · exact z
  · rw [List.drop_eq_nil_of_le (by omega)] at hd; cases hd
theorem ahead {ts : List Str} {i l : Nat} {k : Int} {t : Str} {r : List Str} {s : St} {Q : Cl → St → Prop} (hs : s[l]? = some (lnO ts i k)) (hd : ts.drop i = t :: r) (h : Q (.sh (.str t)) s) : FRun f_Line_group_ahead [.lo l] s Q :=
  group_ahead hs (drop_lt hd) (by rw [hd]; exact h)
theorem pulled {ts : List Str} {i l : Nat} {k : Int} {t : Str} {r : List Str} {s : St} {Q : Cl → St → Prop} (hs : s[l]? = some (lnO ts i k)) (hd : ts.drop i = t :: r) (ht : t ≠ "") (h : ∀ s', s'[l]? = some (lnO ts (i + 1) k) → Fr l s s' → Q (.sh (.str t)) s') : FRun f_Line_pulled [.lo l] s Q := by
  refine frun_fn rfl ?_
  unfold m_Line_pulled
  repeat walk_at "ds"
  refine ⟨_, hs, rfl, ?_⟩
  repeat walk_at "ds"
  refine ahead hs hd ?_
  repeat walk_at "ds"
  refine two_dec (fun z => absurd z ht) (fun _ => ?_)
  repeat walk_at "ds"
  refine run_augF ?_
  repeat walk_at "ds"
  refine ⟨_, _, hs, by simp, rfl, ?_⟩
  repeat walk_at "ds"
  refine h _ ?_ Fr.set.trim
  have hl := lt_of_at hs
  rw [trim_get hl, set_same hl]
  rfl
theorem expect {ts : List Str} {i l : Nat} {k : Int} {t : Str} {r : List Str} {s : St} {Q : Cl → St → Prop} (hs : s[l]? = some (lnO ts i k)) (hd : ts.drop i = t :: r) (ht : t ≠ "") (h : ∀ s', s'[l]? = some (lnO ts (i + 1) k) → Fr l s s' → Q (.sh .none) s') : FRun f_Line_expect [.lo l, .sh (.str t)] s Q := by
  have hl := lt_of_at hs
  refine frun_fn rfl ?_
  unfold m_Line_expect
  repeat walk_at "ds"
  refine ⟨_, hs, rfl, ?_⟩
  repeat walk_at "ds"
  refine pulled hs hd ht fun s2 a2 F2 => ?_
  repeat walk_at "ds"
  exact h _ ((trim_get hl).trans a2) F2.trim
theorem pulled_boxes {ts : List Str} {i l : Nat} {k : Int} {bs r : List Str} {s : St} {Q : Cl → St → Prop} (hs : s[l]? = some (lnO ts i k)) (hd : ts.drop i = gBoxes bs ++ r) (hb : ∀ x ∈ bs, Bk x) (hl2 : bs.length ≤ 100000) (h : ∀ s', s'[l]? = some (lnO ts (i + (gBoxes bs).length) k) → Fr l s s' → Q (.sh (.tuple (bs.map PyData.str))) s') : FRun f_Line_pulled_boxes [.lo l] s Q := by
  have hl := lt_of_at hs
  have hd : ts.drop i = ("(" : Str) :: (bs ++ (")" : Str) :: r) := by rw [hd]; simp [gBoxes]
  refine frun_fn rfl ?_
  unfold m_Line_pulled_boxes
  repeat walk_at "ds"
  refine ⟨_, hs, rfl, ?_⟩
  repeat walk_at "ds"
  refine expect hs hd (by decide) fun s2 a2 F2 => ?_
  repeat walk_at "ds"
  have d2 := drop_one hd
  have e2 : Fr l s (s2 ++ [Ob.lst []]) := F2.trans Fr.app
  have ln2 : s.length ≤ s2.length := F2.1
  refine run_while (fun m e s' => ∃ (ba bb : List Str) (j : Nat), bs = ba ++ bb ∧ m = bb.length ∧ j = i + 1 + ba.length ∧ ts.drop j = bb ++ (")" : Str) :: r ∧ s'[l]? = some (lnO ts j k) ∧ s'[s2.length]? = some (.lst ((ba.map PyData.str).map Cl.sh)) ∧ Fr l s s' ∧ e = [.lo l, .lo s2.length]) bs.length (by omega) ?_ fun m e s' hI => ?_
  · exact ⟨[], bs, i + 1, rfl, rfl, rfl, d2, (app_old (lt_of_at a2)).trans a2, app_new, e2, rfl⟩
  · obtain ⟨ba, bb, j, rfl, rfl, hj, hdj, a3, b3, F3, rfl⟩ := hI
    repeat walk_at "ds"
    refine ⟨_, a3, rfl, ?_⟩
    repeat walk_at "ds"
    cases bb with
    | nil =>
      have hdj : ts.drop j = (")" : Str) :: r := hdj
      refine ahead a3 hdj ?_
      repeat walk_at "ds"
      refine ⟨_, a3, rfl, ?_⟩
      repeat walk_at "ds"
      refine expect a3 hdj (by decide) fun s4 a4 F4 => ?_
      repeat walk_at "ds"
      have b4 := F4.at_ b3 (by omega)
      refine ⟨_, _, snap_list b4, rfl, ?_⟩
      repeat walk_at "ds"
      rw [List.append_nil] at h
      refine h _ ?_ (F3.trans F4).trim
      rw [trim_get hl, a4, show i + (gBoxes ba).length = j + 1 by rw [gBoxes_len]; omega]
    | cons t bb =>
      have ht := hb t (by simp)
      have hdj : ts.drop j = t :: (bb ++ (")" : Str) :: r) := hdj
      refine ahead a3 hdj ?_
      repeat walk_at "ds"
      refine two_dec (fun z => absurd z ht.2) (fun _ => ?_)
      repeat walk_at "ds"
      refine ⟨_, b3, ?_⟩
      repeat walk_at "ds"
      refine ⟨_, a3, rfl, ?_⟩
      repeat walk_at "ds"
      refine pulled a3 hdj ht.1.1 fun s4 a4 F4 => ?_
      repeat walk_at "ds"
      have b4 := F4.at_ b3 (by omega)
      refine ⟨_, b4, line_of (by simp at hl2 ⊢; omega), ?_⟩
      refine turn_nx ?_
      refine ⟨bb.length, by simp, ba ++ [t], bb, j + 1, by simp, rfl, by simp; omega, drop_one hdj, (set_other (by omega)).trans a4, ?_, (F3.trans F4).put ln2, rfl⟩
      rw [set_same (lt_of_at b4)]
      simp
end Ds.K06
namespace Ds.K06
open PySem PySem.Spec PyProof.Rows L2 Dn TL
def Rd (F : Fn) (n : Nat) (c : Int) (P : D → List Str → Prop) (E : List Str → Prop) : Prop := ∀ {d : D} {g ts r : List Str} {i l : Nat} {k : Int} {s : St} {Q : Cl → St → Prop}, P d g → Gd g → g.length ≤ 100000 → 0 ≤ k → k + n + c ≤ 150 → s[l]? = some (lnO ts i k) → ts.drop i = g ++ r → i ≤ ts.length → E r → (∀ s', s'[l]? = some (lnO ts (i + g.length) k) → Fr l s s' → Q (.sh d) s') → FRun F [.lo l] s Q
def Any (r : List Str) : Prop := True
def Stop (r : List Str) : Prop := hdS r = "|" ∨ hdS r = "}" ∨ hdS r = ""
def figD : D → Bool
  | .str y => strIn y "0123456789"
  | _ => false
theorem bx_intS {x : Str} {n : Int} {Q : D → Prop} (h1 : x.length ≤ 640) (h2 : PySem.intText? x = some n) (h : Q (.int n)) : ∃ c, bIntS [.str x] = some c ∧ Q c := ⟨.int n, by
  show (if x.length ≤ 640 then (PySem.intText? x).map PyData.int else none) = _
  rw [if_pos h1, h2]
  rfl, h⟩
theorem figs {t : Str} (h : ∀ c ∈ tl t, 48 ≤ c ∧ c ≤ 57) : ((sgnD t).all figD) = true := by
  rw [List.all_eq_true]
  intro d hd
  obtain ⟨c, hc, rfl⟩ := mem_sgnD hd
  have := h c hc
  show strIn ⟨#[c]⟩ "0123456789" = true
  rw [strIn1]
  have e : tl ("0123456789" : Str) = (List.range 10).map (48 + ·) := by decide
  rw [e, decide_eq_true_eq, List.mem_map]
  exact ⟨c - 48, List.mem_range.mpr (by omega), by omega⟩
theorem run_allF {vs : List Nat} {g : MG Cl} {me : M D} {e : Ev} {s : St} {Q : List D → Ev → St → Prop} (ds : List D) (f : D → Bool)
    (hs : ∀ d ∈ ds, ∃ e1, g (.sh d) e = some e1 ∧ Run me e1 s fun y e3 s3 => y = .bool (f d) ∧ wipeE e3 vs = e ∧ s3 = s)
    (fin : Q ((ds.map f).map PyData.bool) e s) : Run (compL vs g mYes me ds) e s Q :=
  run_map' ds (fun d => .bool (f d)) hs (by rw [List.map_map] at fin; exact fin)
theorem gd_drop {a b : List Str} (h : Gd (a ++ b)) : Gd a ∧ Gd b := ⟨fun t ht => h t (List.mem_append_left _ ht), fun t ht => h t (List.mem_append_right _ ht)⟩
theorem gd_tail {a : Str} {b : List Str} (h : Gd (a :: b)) : Tk a ∧ Gd b := ⟨h a List.mem_cons_self, fun t ht => h t (List.mem_cons_of_mem _ ht)⟩
theorem pulled_number {ts : List Str} {i l : Nat} {k j : Int} {r : List Str} {s : St} {Q : Cl → St → Prop} (hj : 0 ≤ j ∧ j ≤ 9999) (hs : s[l]? = some (lnO ts i k)) (hd : ts.drop i = tokI j :: r) (h : ∀ s', s'[l]? = some (lnO ts (i + 1) k) → Fr l s s' → Q (.sh (.int j)) s') : FRun f_Line_pulled_number [.lo l] s Q := by
  have hl := lt_of_at hs
  obtain ⟨n1, n2, n3⟩ := num_tk hj
  refine frun_fn rfl ?_
  unfold m_Line_pulled_number
  repeat walk_at "ds"
  refine ⟨_, hs, rfl, ?_⟩
  repeat walk_at "ds"
  refine pulled hs hd n1.1 fun s2 a2 F2 => ?_
  repeat walk_at "ds"
  refine two_dec (fun z => absurd z (show ¬ ((tokI j).length : Int) > 4 by omega)) (fun _ => ?_)
  repeat walk_at "ds"
  refine ⟨by rw [sgnD_len]; exact line_of (by omega), run_allF _ figD (fun d hd => ⟨_, rfl, ?_⟩) ?_⟩
  · obtain ⟨c, hc, rfl⟩ := mem_sgnD hd
    repeat walk_at "ds"
    exact ⟨rfl, rfl, rfl⟩
  repeat walk_at "ds"
  refine ⟨_, shL_map _, ?_⟩
  repeat walk_at "ds"
  refine bx_bools ?_
  have hf : ((sgnD (tokI j)).map figD).all id = true := by rw [List.all_map]; exact figs n3
  rw [hf]
  repeat walk_at "ds"
  refine bx_intS (by omega) (PySem.W.KIN.num_reads hj.1 (by omega)) ?_
  repeat walk_at "ds"
  exact h _ ((trim_get hl).trans a2) F2.trim
theorem pulled_row_s {r : Nat → Fn} {n : Nat} (H : Rd (r 2) n 0 (WG n) Any) : Rd (fnF 1 2 (m_Line_pulled_row r)) n 0 (RG (WG n)) Stop := by
  intro d g ts r0 i l k s Q hd hg hgl hk hk2 hs hdr hi hE h
  obtain ⟨ws, gss, rfl, hA, rfl⟩ := hd
  unfold Stop at hE
  have hl := lt_of_at hs
  refine frun_fn rfl ?_
  unfold m_Line_pulled_row
  repeat walk_at "ds"
  have lw : ws.length ≤ 100000 := by
    have := all2_len hA
    have h0 := wg_all hA
    have h2 : gss.length ≤ gss.flatten.length := by
      clear hA hg hgl hdr h this
      induction gss with
      | nil => simp
      | cons a b ih =>
        rw [List.flatten_cons, List.length_append, List.length_cons]
        have h3 := ih fun g hg => h0 g (List.mem_cons_of_mem _ hg)
        have h4 : a ≠ [] := h0 a List.mem_cons_self
        have h5 : 0 < a.length := List.length_pos_iff.mpr h4
        omega
    omega
  refine run_while (fun m e s' => ∃ (wa wb : List D) (gb : List (List Str)) (j : Nat), ws = wa ++ wb ∧ All2 (WG n) wb gb ∧ Gd gb.flatten ∧ gb.flatten.length ≤ 100000 ∧ m = wb.length ∧ j + gb.flatten.length = i + gss.flatten.length ∧ ts.drop j = gb.flatten ++ r0 ∧ j ≤ ts.length ∧ s'[l]? = some (lnO ts j k) ∧ s'[s.length]? = some (.lst (wa.map Cl.sh)) ∧ Fr l s s' ∧ e = [.lo l, .lo s.length]) ws.length (by omega) ?_ fun m e s' hI => ?_
  · refine ⟨[], ws, gss, i, rfl, hA, hg, hgl, rfl, rfl, hdr, ?_, (app_old hl).trans hs, app_new, Fr.app, rfl⟩
    exact hi
  · obtain ⟨wa, wb, gb, j, rfl, hB, hgb, hgl2, rfl, hj, hdj, jl, a3, b3, F3, rfl⟩ := hI
    repeat walk_at "ds"
    refine ⟨_, a3, rfl, ?_⟩
    repeat walk_at "ds"
    refine group_ahead a3 jl ?_
    rw [hdj]
    repeat walk_at "ds"
    have hin : ∀ x : Str, inD (.str x) [.str "|", .str "}", .str ""] = decide (x = "|" ∨ x = "}" ∨ x = "") := fun x => (inD_strs x ["|", "}", ""]).trans (by simp)
    rw [hin]
    cases hB with
    | nil =>
      have e : hdS (([] : List (List Str)).flatten ++ r0) = hdS r0 := rfl
      rw [e, decide_eq_true hE]
      repeat walk_at "ds"
      refine ⟨_, _, snap_list b3, rfl, ?_⟩
      repeat walk_at "ds"
      rw [List.append_nil] at h
      refine h _ ?_ F3.trim
      rw [trim_get hl, a3]
      have hj : j + 0 = i + gss.flatten.length := hj
      rw [Nat.add_zero] at hj
      rw [hj]
    | @cons w g wb gb hw hB =>
      obtain ⟨t, q, rfl, t1, t2, t3⟩ := wg_head hw
      have e : hdS (((t :: q) :: gb).flatten ++ r0) = t := rfl
      rw [e, decide_eq_false (by simp [t1, t2, t3])]
      rw [List.flatten_cons] at hgb hdj hj hgl2
      rw [List.length_append] at hgl2
      obtain ⟨g1, g2⟩ := gd_drop hgb
      rw [List.append_assoc] at hdj
      repeat walk_at "ds"
      refine ⟨_, b3, ?_⟩
      repeat walk_at "ds"
      refine ⟨_, a3, rfl, ?_⟩
      repeat walk_at "ds"
      rw [List.length_append] at hj
      refine H hw g1 (by omega) hk hk2 a3 hdj jl True.intro fun s4 a4 F4 => ?_
      repeat walk_at "ds"
      have b4 := F4.at_ b3 (by omega)
      refine ⟨_, b4, line_of (by simp at lw ⊢; omega), ?_⟩
      refine turn_nx ?_
      have hd2 : ts.drop (j + (t :: q).length) = gb.flatten ++ r0 := by
        rw [← List.drop_drop, hdj, List.drop_left]
      refine ⟨wb.length, by simp, wa ++ [w], wb, gb, j + (t :: q).length, by simp, hB, g2, by omega, rfl, by omega, hd2, ?_, (set_other (by omega)).trans a4, ?_, (F3.trans F4).put (Nat.le_refl _), rfl⟩
      · have := congrArg List.length hdj
        rw [List.length_drop, List.length_append] at this
        omega
      · rw [set_same (lt_of_at b4)]
        simp
end Ds.K06
namespace Ds.K06
open PySem PySem.Spec PyProof.Rows L2 Dn TL
def barsT (gs : List (List Str)) : List Str := gs.flatMap fun g => ("|" : Str) :: g
theorem bars_cons : ∀ (g : List Str) (gs : List (List Str)), bars (g :: gs) = g ++ barsT gs
  | g, [] => by simp [bars, barsT]
  | g, h :: r => by
    have := bars_cons h r
    show g ++ ("|" : Str) :: bars (h :: r) = _
    rw [this]
    simp [barsT]
def RS1 (n : Nat) (d : D) (g : List Str) : Prop := ∃ rs gs, d = .tuple rs ∧ 1 ≤ rs.length ∧ All2 (RG (WG n)) rs gs ∧ g = gRows gs
theorem stop_bars (gs : List (List Str)) (r : List Str) : Stop (barsT gs ++ ("}" : Str) :: r) := by
  cases gs with
  | nil => exact .inr (.inl rfl)
  | cons a b => exact .inl rfl
theorem barsT_len (gs : List (List Str)) : gs.length ≤ (barsT gs).length := by
  induction gs with
  | nil => exact Nat.le_refl _
  | cons a b ih =>
    have e : barsT (a :: b) = ("|" : Str) :: (a ++ barsT b) := by simp [barsT]
    rw [e, List.length_cons, List.length_cons, List.length_append]
    omega
theorem drop_lt' {ts : List Str} {i : Nat} {t : Str} {r : List Str} (hd : ts.drop i = t :: r) : i + 1 ≤ ts.length := by
  have := congrArg List.length hd
  rw [List.length_drop, List.length_cons] at this
  omega
theorem pulled_rows_s {r : Nat → Fn} {n : Nat} (H : Rd (r 1) n 0 (RG (WG n)) Stop) : Rd (fnF 1 2 (m_Line_pulled_rows r)) n 1 (RS1 n) Any := by
  intro d g ts r0 i l k s Q hd hg hgl hk hk2 hs hdr hi hE h
  obtain ⟨rs, gs, rfl, hr1, hA, rfl⟩ := hd
  have hl := lt_of_at hs
  cases hA with
  | nil => exact absurd hr1 (by simp)
  | @cons d0 g0 rs gs hR hA =>
  have hlen := all2_len hA
  have e1 : gRows (g0 :: gs) = ("{" : Str) :: (g0 ++ (barsT gs ++ [("}" : Str)])) := by unfold gRows; rw [bars_cons]; simp
  rw [e1] at hdr hg hgl h
  have hdr : ts.drop i = ("{" : Str) :: (g0 ++ (barsT gs ++ ("}" : Str) :: r0)) := by rw [hdr]; simp
  obtain ⟨_, hg⟩ := gd_tail hg
  obtain ⟨hg0, hg1⟩ := gd_drop hg
  obtain ⟨hg1, _⟩ := gd_drop hg1
  rw [List.length_cons, List.length_append, List.length_append, List.length_cons, List.length_nil] at hgl
  have lgs := barsT_len gs
  refine frun_fn rfl ?_
  unfold m_Line_pulled_rows
  repeat walk_at "ds"
  refine ⟨_, hs, rfl, ?_⟩
  repeat walk_at "ds"
  refine expect hs hdr (by decide) fun s2 a2 F2 => ?_
  have d2 := drop_one hdr
  repeat walk_at "ds"
  refine run_augF ?_
  repeat walk_at "ds"
  refine ⟨_, _, a2, by simp, rfl, ?_⟩
  generalize hs3 : s2.set l _ = s3
  have a3 : s3[l]? = some (lnO ts (i + 1) (k + 1)) := by
    rw [← hs3, set_same (lt_of_at a2)]
    rfl
  have F3 : Fr l s s3 := by
    rw [← hs3]
    exact F2.set'
  clear hs3
  repeat walk_at "ds"
  refine ⟨_, _, a3, rfl, ?_⟩
  repeat walk_at "ds"
  refine two_dec (fun z => absurd z (show ¬ (k + 1 > 150) by omega)) (fun _ => ?_)
  repeat walk_at "ds"
  refine ⟨_, a3, rfl, ?_⟩
  repeat walk_at "ds"
  have i1 : i + 1 ≤ ts.length := drop_lt' hdr
  refine H hR hg0 (by omega) (by omega) (by omega) a3 d2 i1 (stop_bars gs r0) fun s4 a4 F4 => ?_
  repeat walk_at "ds"
  have ln4 : s.length ≤ s4.length := Nat.le_trans F3.1 F4.1
  have d4 : ts.drop (i + 1 + g0.length) = barsT gs ++ ("}" : Str) :: r0 := by rw [← List.drop_drop, d2, List.drop_left]
  have i4 : i + 1 + g0.length ≤ ts.length := by
    have := congrArg List.length d2
    rw [List.length_drop, List.length_append] at this
    omega
  refine run_while (fun m e s' => ∃ (ra rb : List D) (gb : List (List Str)) (j : Nat), d0 :: rs = ra ++ rb ∧ All2 (RG (WG n)) rb gb ∧ Gd (barsT gb) ∧ (barsT gb).length ≤ 100000 ∧ m = rb.length ∧ j + (barsT gb).length = i + 1 + g0.length + (barsT gs).length ∧ ts.drop j = barsT gb ++ ("}" : Str) :: r0 ∧ j ≤ ts.length ∧ s'[l]? = some (lnO ts j (k + 1)) ∧ s'[s4.length]? = some (.lst (ra.map Cl.sh)) ∧ Fr l s s' ∧ e = [.lo l, .lo s4.length]) rs.length (by omega) ?_ fun m e s' hI => ?_
  · exact ⟨[d0], rs, gs, _, rfl, hA, hg1, by omega, rfl, rfl, d4, i4, (app_old (lt_of_at a4)).trans a4, app_new, (F3.trans F4).trans Fr.app, rfl⟩
  · obtain ⟨ra, rb, gb, j, hsp, hB, hgb, hgl2, rfl, hj, hdj, jl, a5, b5, F5, rfl⟩ := hI
    repeat walk_at "ds"
    refine ⟨_, a5, rfl, ?_⟩
    repeat walk_at "ds"
    cases hB with
    | nil =>
      have hdj : ts.drop j = ("}" : Str) :: r0 := hdj
      have hj : j + 0 = i + 1 + g0.length + (barsT gs).length := hj
      rw [List.append_nil] at hsp
      refine ahead a5 hdj ?_
      repeat walk_at "ds"
      refine ⟨_, a5, rfl, ?_⟩
      repeat walk_at "ds"
      refine expect a5 hdj (by decide) fun s6 a6 F6 => ?_
      repeat walk_at "ds"
      refine run_augF ?_
      repeat walk_at "ds"
      refine ⟨_, _, a6, by simp, rfl, ?_⟩
      generalize hs7 : s6.set l _ = s7
      have a7 : s7[l]? = some (lnO ts (j + 1) k) := by
        rw [← hs7, set_same (lt_of_at a6)]
        show some (lnO ts (j + 1) (k + 1 - 1)) = _
        rw [show k + 1 - 1 = k by omega]
      have F7 : Fr l s s7 := by
        rw [← hs7]
        exact (F5.trans F6).set'
      have b7 : s7[s4.length]? = some (.lst (ra.map Cl.sh)) := by
        rw [← hs7]
        exact (set_other (by omega)).trans (F6.at_ b5 (by omega))
      clear hs7
      repeat walk_at "ds"
      refine ⟨_, _, snap_list b7, rfl, ?_⟩
      repeat walk_at "ds"
      rw [← hsp]
      refine h _ ?_ F7.trim
      rw [trim_get hl, a7]
      have : i + (("{" : Str) :: (g0 ++ (barsT gs ++ [("}" : Str)]))).length = j + 1 := by
        simp only [List.length_cons, List.length_append, List.length_nil]
        omega
      rw [this]
    | @cons d1 g1 rb gb hR1 hB =>
      have eb : barsT (g1 :: gb) = ("|" : Str) :: (g1 ++ barsT gb) := by simp [barsT]
      rw [eb] at hdj hj hgb hgl2
      have hdj : ts.drop j = ("|" : Str) :: (g1 ++ (barsT gb ++ ("}" : Str) :: r0)) := by rw [hdj]; simp
      obtain ⟨_, hgb⟩ := gd_tail hgb
      obtain ⟨hgb1, hgb2⟩ := gd_drop hgb
      rw [List.length_cons, List.length_append] at hj hgl2
      refine ahead a5 hdj ?_
      repeat walk_at "ds"
      refine ⟨_, a5, rfl, ?_⟩
      repeat walk_at "ds"
      refine expect a5 hdj (by decide) fun s6 a6 F6 => ?_
      repeat walk_at "ds"
      have b6 := F6.at_ b5 (by omega)
      refine ⟨_, b6, ?_⟩
      repeat walk_at "ds"
      refine ⟨_, a6, rfl, ?_⟩
      repeat walk_at "ds"
      have d6 := drop_one hdj
      refine H hR1 hgb1 (by omega) (by omega) (by omega) a6 d6 (drop_lt' hdj) (stop_bars gb r0) fun s8 a8 F8 => ?_
      repeat walk_at "ds"
      have b8 := F8.at_ b6 (by omega)
      have d8 : ts.drop (j + 1 + g1.length) = barsT gb ++ ("}" : Str) :: r0 := by rw [← List.drop_drop, d6, List.drop_left]
      have lra : ra.length ≤ rs.length + 1 := by
        have := congrArg List.length hsp
        rw [List.length_append, List.length_cons] at this
        omega
      refine ⟨_, b8, line_of (by simp; omega), ?_⟩
      refine turn_nx ?_
      refine ⟨rb.length, by simp, ra ++ [d1], rb, gb, j + 1 + g1.length, by rw [hsp]; simp, hB, hgb2, by omega, rfl, by omega, d8, ?_, (set_other (by omega)).trans a8, ?_, ((F5.trans F6).trans F8).put ln4, rfl⟩
      · have := congrArg List.length d6
        rw [List.length_drop, List.length_append] at this
        have := drop_lt' hdj
        omega
      · rw [set_same (lt_of_at b8)]
        simp
end Ds.K06
namespace Ds.K06
open PySem PySem.Spec PyProof.Rows L2 Dn TL
theorem rs1_of {n : Nat} {d : D} {g : List Str} (h : RG (WG n) d g) : RS1 n (.tuple [d]) (gRows [g]) := ⟨[d], [g], rfl, by simp, .cons h .nil, rfl⟩
theorem pull_many {ts : List Str} {i l m : Nat} {k : Int} {t : Str} {bs r : List Str} {s : St} {Q : List D → Ev → St → Prop} (hm : bs.length = m) (hs : s[l]? = some (lnO ts i k)) (hd : ts.drop i = bs ++ r) (hb : ∀ x ∈ bs, Tk x)
    (h : ∀ s', s'[l]? = some (lnO ts (i + m) k) → Fr l s s' → Q (bs.map PyData.str) [.lo l, .sh (.str t), .no] s') : Run (compL [2] (mgName 2) mYes (mD (mMeth "Line" "pulled" f_Line_pulled (mLV 0) [])) (rngD 0 m)) [.lo l, .sh (.str t), .no] s Q := by
  refine run_compL _ (fun j ys e s' => ys = (bs.take j).map PyData.str ∧ s'[l]? = some (lnO ts (i + j) k) ∧ Fr l s s' ∧ e = [.lo l, .sh (.str t), .no]) ?_ (fun j d ys e s' hd' hJ => ?_) fun ys e s' hJ => ?_
  · exact ⟨by simp, hs, Fr.refl _ _, rfl⟩
  · obtain ⟨rfl, a2, F2, rfl⟩ := hJ
    obtain ⟨rfl, hj⟩ := rngD_at hd'
    have hjb : j < bs.length := by omega
    have dj : ts.drop (i + j) = bs[j] :: (bs.drop (j + 1) ++ r) := by
      rw [← List.drop_drop, hd, List.drop_append_of_le_length (by omega), List.drop_eq_getElem_cons hjb]
      rfl
    refine ⟨_, rfl, ?_⟩
    repeat walk_at "ds"
    refine ⟨_, a2, rfl, ?_⟩
    repeat walk_at "ds"
    refine pulled a2 dj (hb _ (List.getElem_mem hjb)).1 fun s4 a4 F4 => ?_
    repeat walk_at "ds"
    refine ⟨?_, a4, F2.trans F4, rfl⟩
    rw [List.take_add_one (l := bs), List.getElem?_eq_getElem hjb]
    rw [List.map_append]
    rfl
  · obtain ⟨rfl, a2, F2, rfl⟩ := hJ
    rw [rngD_length] at a2
    rw [rngD_length, ← hm, List.take_length]
    exact h _ a2 F2
theorem pulled_word_s {r : Nat → Fn} {n : Nat} (H : ∀ n', n = n' + 1 → Rd (r 0) n' 1 (RS1 n') Any) : Rd (fnF 1 3 (m_Line_pulled_word r)) n 0 (WG n) Any := by
  intro d g ts r0 i l k s Q hd hg hgl hk hk2 hs hdr hi hE h
  have hl := lt_of_at hs
  have leaf : LG d g → FRun (fnF 1 3 (m_Line_pulled_word r)) [.lo l] s Q := fun hL => by
    refine frun_fn rfl ?_
    unfold m_Line_pulled_word
    cases hL with
    | @take x w hx hw =>
      have d1 : ts.drop i = ("take" : Str) :: x :: w :: r0 := hdr
      repeat walk_at "ds"
      refine ⟨_, hs, rfl, ?_⟩
      repeat walk_at "ds"
      refine pulled hs d1 (by decide) fun s2 a2 F2 => ?_
      repeat walk_at "ds"
      refine ⟨_, a2, rfl, ?_⟩
      repeat walk_at "ds"
      have d2 := drop_one d1
      refine pulled a2 d2 hx.1 fun s3 a3 F3 => ?_
      repeat walk_at "ds"
      refine ⟨_, a3, rfl, ?_⟩
      repeat walk_at "ds"
      have d3 := drop_one d2
      refine pulled a3 d3 hw.1 fun s4 a4 F4 => ?_
      repeat walk_at "ds"
      exact h _ ((trim_get hl).trans a4) ((F2.trans F3).trans F4).trim
    | @number x j hx hj =>
      have d1 : ts.drop i = ("number" : Str) :: x :: tokI j :: r0 := hdr
      repeat walk_at "ds"
      refine ⟨_, hs, rfl, ?_⟩
      repeat walk_at "ds"
      refine pulled hs d1 (by decide) fun s2 a2 F2 => ?_
      repeat walk_at "ds"
      refine ⟨_, a2, rfl, ?_⟩
      repeat walk_at "ds"
      have d2 := drop_one d1
      refine pulled a2 d2 hx.1 fun s3 a3 F3 => ?_
      repeat walk_at "ds"
      refine ⟨_, a3, rfl, ?_⟩
      repeat walk_at "ds"
      have d3 := drop_one d2
      refine pulled_number hj a3 d3 fun s4 a4 F4 => ?_
      repeat walk_at "ds"
      exact h _ ((trim_get hl).trans a4) ((F2.trans F3).trans F4).trim
    | @one kk x hkk hx =>
      rcases hkk with rfl | rfl | rfl
      all_goals
        have d1 : ts.drop i = _ :: x :: r0 := hdr
        repeat walk_at "ds"
        refine ⟨_, hs, rfl, ?_⟩
        repeat walk_at "ds"
        refine pulled hs d1 (by decide) fun s2 a2 F2 => ?_
        repeat walk_at "ds"
        refine ⟨_, a2, rfl, ?_⟩
        repeat walk_at "ds"
        have d2 := drop_one d1
        refine pulled a2 d2 hx.1 fun s3 a3 F3 => ?_
        repeat walk_at "ds"
        exact h _ ((trim_get hl).trans a3) (F2.trans F3).trim
    | @out j hj =>
      have d1 : ts.drop i = ("out" : Str) :: tokI j :: r0 := hdr
      repeat walk_at "ds"
      refine ⟨_, hs, rfl, ?_⟩
      repeat walk_at "ds"
      refine pulled hs d1 (by decide) fun s2 a2 F2 => ?_
      repeat walk_at "ds"
      refine ⟨_, a2, rfl, ?_⟩
      repeat walk_at "ds"
      have d2 := drop_one d1
      refine pulled_number hj a2 d2 fun s3 a3 F3 => ?_
      repeat walk_at "ds"
      exact h _ ((trim_get hl).trans a3) (F2.trans F3).trim
    | @drop bs hb =>
      have d1 : ts.drop i = ("drop" : Str) :: (gBoxes bs ++ r0) := hdr
      have lb : bs.length ≤ 100000 := by simp [gBoxes_len] at hgl; omega
      repeat walk_at "ds"
      refine ⟨_, hs, rfl, ?_⟩
      repeat walk_at "ds"
      refine pulled hs d1 (by decide) fun s2 a2 F2 => ?_
      repeat walk_at "ds"
      refine ⟨_, a2, rfl, ?_⟩
      repeat walk_at "ds"
      have d2 := drop_one d1
      refine pulled_boxes a2 d2 hb lb fun s3 a3 F3 => ?_
      repeat walk_at "ds"
      refine h _ ((trim_get hl).trans ?_) (F2.trans F3).trim
      rw [a3, List.length_cons, Nat.add_right_comm]
      rfl
    | @call x as gs hx ha hg' =>
      have d1 : ts.drop i = ("call" : Str) :: x :: (gBoxes as ++ (gBoxes gs ++ r0)) := by rw [hdr]; simp
      have lb : as.length ≤ 100000 ∧ gs.length ≤ 100000 := by simp [gBoxes_len] at hgl; omega
      repeat walk_at "ds"
      refine ⟨_, hs, rfl, ?_⟩
      repeat walk_at "ds"
      refine pulled hs d1 (by decide) fun s2 a2 F2 => ?_
      repeat walk_at "ds"
      refine ⟨_, a2, rfl, ?_⟩
      repeat walk_at "ds"
      have d2 := drop_one d1
      refine pulled a2 d2 hx.1 fun s3 a3 F3 => ?_
      repeat walk_at "ds"
      refine ⟨_, a3, rfl, ?_⟩
      repeat walk_at "ds"
      have d3 := drop_one d2
      refine pulled_boxes a3 d3 ha lb.1 fun s4 a4 F4 => ?_
      repeat walk_at "ds"
      refine ⟨_, a4, rfl, ?_⟩
      repeat walk_at "ds"
      have d4 : ts.drop (i + 1 + 1 + (gBoxes as).length) = gBoxes gs ++ r0 := by rw [← List.drop_drop, d3, List.drop_left]
      refine pulled_boxes a4 d4 hg' lb.2 fun s5 a5 F5 => ?_
      repeat walk_at "ds"
      refine h _ ((trim_get hl).trans ?_) (((F2.trans F3).trans F4).trans F5).trim
      rw [a5]
      congr 2
      simp only [List.length_cons, List.length_append]
      omega
    | back =>
      have d1 : ts.drop i = ("back" : Str) :: r0 := hdr
      repeat walk_at "ds"
      refine ⟨_, hs, rfl, ?_⟩
      repeat walk_at "ds"
      refine pulled hs d1 (by decide) fun s2 a2 F2 => ?_
      repeat walk_at "ds"
      refine run_kget2 ?_
      repeat walk_at "ds"
      try refine ⟨Nat.le_of_ble_eq_true rfl, ?_⟩
      refine pull_many (bs := []) (m := 0) rfl a2 (r := r0) (drop_one d1) (by simp) fun s3 a3 F3 => ?_
      repeat walk_at "ds"
      try refine ⟨_, shL_map _, ?_⟩
      repeat walk_at "ds"
      try refine bx_add_tup (Nat.le_of_ble_eq_true rfl) ?_
      repeat walk_at "ds"
      exact h _ ((trim_get hl).trans a3) (F2.trans F3).trim
    | @bx kk bs hm hb =>
      have d1 : ts.drop i = kk :: (bs ++ r0) := hdr
      rcases many_get kk with ⟨m, m1, m2, m3⟩ | ⟨m1, m2⟩
      rotate_left
      · rw [m1] at hm; cases hm
      have hm' : m = bs.length := by rw [m1] at hm; exact Option.some.inj hm
      have kn : kk ≠ "choose" ∧ kk ≠ "loop" ∧ kk ≠ "drop" ∧ kk ≠ "call" ∧ kk ≠ "out" ∧ kk ≠ "number" ∧ kk ≠ "take" ∧ ¬ (kk = "clear" ∨ kk = "risk" ∨ kk = "fault") ∧ kk ≠ "" := by
        refine ⟨?_, ?_, ?_, ?_, ?_, ?_, ?_, ?_, ?_⟩
        all_goals first
          | (intro e; subst e; cases m1)
          | (rintro (e | e | e) <;> (subst e; cases m1))
      obtain ⟨k1, k2, k3, k4, k5, k6, k7, k8, k9⟩ := kn
      repeat walk_at "ds"
      refine ⟨_, hs, rfl, ?_⟩
      repeat walk_at "ds"
      refine pulled hs d1 k9 fun s2 a2 F2 => ?_
      have d2 := drop_one d1
      repeat walk_at "ds"
      refine two_dec (fun z => absurd z k1) (fun _ => ?_)
      repeat walk_at "ds"
      refine two_dec (fun z => absurd z k2) (fun _ => ?_)
      repeat walk_at "ds"
      refine two_dec (fun z => absurd z k3) (fun _ => ?_)
      repeat walk_at "ds"
      refine two_dec (fun z => absurd z k4) (fun _ => ?_)
      repeat walk_at "ds"
      refine two_dec (fun z => absurd z k5) (fun _ => ?_)
      repeat walk_at "ds"
      refine two_dec (fun z => absurd z k6) (fun _ => ?_)
      repeat walk_at "ds"
      refine two_dec (fun z => absurd z k7) (fun _ => ?_)
      repeat walk_at "ds"
      refine two_of (in_three kk) ?_
      refine two_dec (fun z => absurd z k8) (fun _ => ?_)
      repeat walk_at "ds"
      refine run_kget2 ?_
      repeat walk_at "ds"
      rw [m3, Option.getD_some]
      have lm : bs.length ≤ 100000 := by simp at hgl; omega
      refine bx_rng1 (inLine_of (by omega)) ?_
      rw [Int.toNat_natCast]
      refine ⟨by rw [rngD_length]; exact line_of (by omega), ?_⟩
      refine pull_many hm'.symm a2 d2 hb fun s3 a3 F3 => ?_
      repeat walk_at "ds"
      refine ⟨_, shL_map _, ?_⟩
      repeat walk_at "ds"
      refine bx_add_tup (line_of (by simp; omega)) ?_
      repeat walk_at "ds"
      refine h _ ((trim_get hl).trans ?_) (F2.trans F3).trim
      rw [a3, hm', List.length_cons, Nat.add_right_comm]
      rfl
  cases n with
  | zero => exact leaf hd
  | succ n =>
    rcases hd with hd | ⟨d, g, rfl, hR, rfl⟩ | ⟨rs, gs, rfl, hrl, hR, rfl⟩
    · exact leaf hd
    · have d1 : ts.drop i = ("loop" : Str) :: (gRows [g] ++ r0) := hdr
      obtain ⟨_, hg⟩ := gd_tail hg
      rw [List.length_cons] at hgl
      refine frun_fn rfl ?_
      unfold m_Line_pulled_word
      repeat walk_at "ds"
      refine ⟨_, hs, rfl, ?_⟩
      repeat walk_at "ds"
      refine pulled hs d1 (by decide) fun s2 a2 F2 => ?_
      repeat walk_at "ds"
      refine ⟨_, a2, rfl, ?_⟩
      repeat walk_at "ds"
      have d2 := drop_one d1
      refine H n rfl (rs1_of hR) hg (by omega) hk (by omega) a2 d2 (drop_lt' d1) True.intro fun s3 a3 F3 => ?_
      repeat walk_at "ds"
      refine h _ ((trim_get hl).trans ?_) (F2.trans F3).trim
      rw [a3, List.length_cons, Nat.add_right_comm]
      rfl
    · have d1 : ts.drop i = ("choose" : Str) :: (gRows gs ++ r0) := hdr
      obtain ⟨_, hg⟩ := gd_tail hg
      rw [List.length_cons] at hgl
      refine frun_fn rfl ?_
      unfold m_Line_pulled_word
      repeat walk_at "ds"
      refine ⟨_, hs, rfl, ?_⟩
      repeat walk_at "ds"
      refine pulled hs d1 (by decide) fun s2 a2 F2 => ?_
      repeat walk_at "ds"
      refine ⟨_, a2, rfl, ?_⟩
      repeat walk_at "ds"
      have d2 := drop_one d1
      refine H n rfl ⟨rs, gs, rfl, hrl.1, hR, rfl⟩ hg (by omega) hk (by omega) a2 d2 (drop_lt' d1) True.intro fun s3 a3 F3 => ?_
      repeat walk_at "ds"
      refine h _ ((trim_get hl).trans ?_) (F2.trans F3).trim
      rw [a3, List.length_cons, Nat.add_right_comm]
      rfl
theorem read_gen : ∀ F n : Nat, (3 * n + 3 ≤ F → Rd (f_G19 F 0) n 1 (RS1 n) Any) ∧ (3 * n + 2 ≤ F → Rd (f_G19 F 1) n 0 (RG (WG n)) Stop) ∧ (3 * n + 1 ≤ F → Rd (f_G19 F 2) n 0 (WG n) Any)
  | 0, n => ⟨fun h => absurd h (by omega), fun h => absurd h (by omega), fun h => absurd h (by omega)⟩
  | F + 1, n => ⟨fun h => pulled_rows_s ((read_gen F n).2.1 (by omega)), fun h => pulled_row_s ((read_gen F n).2.2 (by omega)), fun h => pulled_word_s fun n' e => (read_gen F n').1 (by omega)⟩
theorem pulled_rows : Rd f_Line_pulled_rows 4 1 (RS1 4) Any := (read_gen 20 4).1 (by decide)
end Ds.K06
namespace Ds.K06
open PySem PySem.Spec PyProof.Rows L2 Dn TL
theorem cut_last (xs : List D) (y : D) : Dn.cutD (xs ++ [y]) none (some (-1)) = xs := by
  unfold Dn.cutD
  rw [HT.sIx_none]
  have e : HT.sIx (xs ++ [y]).length (xs ++ [y]).length (some (-1)) = xs.length := by
    show (if (-1 : Int) < 0 then ((-1 : Int) + ((xs ++ [y]).length : Int)).toNat else min (-1 : Int).toNat (xs ++ [y]).length) = _
    rw [if_pos (by decide), List.length_append]
    simp
    omega
  rw [e, Nat.sub_zero, List.drop_zero, List.take_left]
theorem ix_last (xs : List D) (y : D) : atI (xs ++ [y]) (-1) = some y := by
  unfold atI ixN
  have e : ((-1 : Int) + ((xs ++ [y]).length : Int)).toNat = xs.length := by
    rw [List.length_append]
    simp
    omega
  have e2 : (0 : Int) ≤ (-1 : Int) + ((xs ++ [y]).length : Int) := by
    rw [List.length_append]
    simp
    omega
  rw [if_neg (by decide)]
  rw [if_pos (by omega), e]
  simp
theorem tk_split {ts : List Str} (h0 : ts ≠ []) (h : Gd ts) : Txt.split (txt ts) " " = ts := split_txt h0 fun t ht z => by
  have := (h t ht).2.2 32 z
  omega
theorem lines_split {gds : List (List Str)} {gm : List Str} (h1 : ∀ g ∈ gds, Gd g) (h2 : Gd (gMain gm)) : Txt.split (text gds gm) "\n" = lines gds gm := by
  refine split_lines (by simp [lines]) fun t ht => ?_
  obtain ⟨g, hg, rfl⟩ := List.mem_map.mp ht
  have hG : Gd g := by
    rcases List.mem_append.mp hg with hg | hg
    · exact h1 g hg
    · simp at hg; subst hg; exact h2
  refine txt_no (by decide) fun t ht z => ?_
  have := (hG t ht).2.2 10 z
  omega
theorem join_len (ls : List Str) : (Txt.join "\n" ls).length ≤ joinN "\n" ls := by
  have l : ("\n" : Str).length = 1 := rfl
  cases ls with
  | nil =>
    rw [show Txt.join "\n" [] = "" from join_nil 10]
    exact Nat.zero_le _
  | cons a r =>
    have h2 : tl (Txt.join "\n" (a :: r)) = tl a ++ r.flatMap fun s => 10 :: tl s := tl_joinB 10 a r
    rw [len_tl, h2, List.length_append]
    unfold joinN
    rw [l, List.map_cons, List.sum_cons, List.length_cons, ← len_tl]
    have : (r.flatMap fun s => 10 :: tl s).length = (r.map (·.length)).sum + r.length := by
      induction r with
      | nil => rfl
      | cons b r ih =>
        have ih := ih (tl_joinB 10 a r)
        rw [List.flatMap_cons, List.length_append, List.length_cons, ih, List.map_cons, List.sum_cons, List.length_cons, ← len_tl]
        omega
    omega
theorem PG.join7 {defs : List D} {main : D} {gds : List (List Str)} {gm : List Str} (h : PG defs main gds gm) : joinN "\n" (lines gds gm) ≤ 7 * 1000001 := by
  have := joinN_lines (gds ++ [gMain gm]) 1000000 fun g hg => by
    rcases List.mem_append.mp hg with hg | hg
    · exact h.sz g hg
    · simp at hg; subst hg; exact h.sm
  have h6 := h.six
  rw [List.length_append] at this
  have h7 : (gds.length + [gMain gm].length) * (1000000 + 1) ≤ 7 * 1000001 := Nat.mul_le_mul_right _ (by simp; omega)
  exact Nat.le_trans this h7
theorem line_init {ts : List Str} {l : Nat} {s : St} {Q : Cl → St → Prop} (hs : s[l]? = some (.ins "Line" [])) (h0 : ts ≠ []) (hg : Gd ts) (hT : (T ts).length ≤ 1000000) (h : ∀ s', s'[l]? = some (lnO ts 0 0) → Fr l s s' → Q (.sh .none) s') : FRun f_Line___init__ [.lo l, .sh (.str (txt ts))] s Q := by
  have hl := lt_of_at hs
  have l1 := len_txt (ts := ts)
  refine frun_fn rfl ?_
  unfold m_Line___init__
  repeat walk_at "ds"
  refine bx_split rfl (by unfold sizeLine; omega) ?_
  rw [tk_split h0 hg]
  repeat walk_at "ds"
  refine ⟨_, hs, by decide, ?_⟩
  repeat walk_at "ds"
  have hs2 : ∀ o : Ob, (s.set l o)[l]? = some o := fun o => set_same hl
  refine ⟨_, hs2 _, (show 1 < 1000 by decide), ?_⟩
  rw [List.set_set]
  repeat walk_at "ds"
  refine ⟨_, hs2 _, (show 2 < 1000 by decide), ?_⟩
  rw [List.set_set]
  repeat walk_at "ds"
  refine h _ ?_ Fr.set.trim
  rw [trim_get hl, hs2]
  rfl
theorem pulled_def {ts : List Str} {l : Nat} {d : D} {s : St} {Q : Cl → St → Prop} (hD : DG d ts) (hg : Gd ts) (hgl : ts.length ≤ 100000) (hs : s[l]? = some (lnO ts 0 0)) (h : ∀ s', Fr l s s' → Q (.sh d) s') : FRun f_Line_pulled_def [.lo l] s Q := by
  obtain ⟨nm, ps, rs, row, g, rfl, hn, hp, hr, hR, rfl⟩ := hD
  have hl := lt_of_at hs
  have d0 : (gDef nm ps rs g).drop 0 = ("def" : Str) :: nm :: (gBoxes ps ++ (gBoxes rs ++ (gRows [g] ++ []))) := by simp [gDef]
  have hgl2 := hgl
  unfold gDef at hg hgl2
  obtain ⟨_, hg⟩ := gd_tail hg
  obtain ⟨_, hg⟩ := gd_tail hg
  obtain ⟨_, hg⟩ := gd_drop hg
  obtain ⟨_, hg⟩ := gd_drop hg
  simp only [List.length_cons, List.length_append, gBoxes_len] at hgl2
  have d1 := drop_one d0
  have d2 := drop_one d1
  have d3 : (gDef nm ps rs g).drop (0 + 1 + 1 + (gBoxes ps).length) = gBoxes rs ++ (gRows [g] ++ []) := by rw [← List.drop_drop, d2, List.drop_left]
  have d4 : (gDef nm ps rs g).drop (0 + 1 + 1 + (gBoxes ps).length + (gBoxes rs).length) = gRows [g] ++ [] := by rw [← List.drop_drop, d3, List.drop_left]
  have i4 : 0 + 1 + 1 + (gBoxes ps).length + (gBoxes rs).length ≤ (gDef nm ps rs g).length := by
    simp only [gDef, List.length_cons, List.length_append]
    omega
  refine frun_fn rfl ?_
  unfold m_Line_pulled_def
  repeat walk_at "ds"
  refine ⟨_, hs, rfl, ?_⟩
  repeat walk_at "ds"
  refine expect hs d0 (by decide) fun s2 a2 F2 => ?_
  repeat walk_at "ds"
  refine ⟨_, a2, rfl, ?_⟩
  repeat walk_at "ds"
  refine pulled a2 d1 hn.1.1 fun s3 a3 F3 => ?_
  repeat walk_at "ds"
  refine ⟨_, a3, rfl, ?_⟩
  repeat walk_at "ds"
  refine pulled_boxes a3 d2 hp (by omega) fun s4 a4 F4 => ?_
  repeat walk_at "ds"
  refine ⟨_, a4, rfl, ?_⟩
  repeat walk_at "ds"
  refine pulled_boxes a4 d3 hr (by omega) fun s5 a5 F5 => ?_
  repeat walk_at "ds"
  refine ⟨_, a5, rfl, ?_⟩
  repeat walk_at "ds"
  refine pulled_rows (rs1_of hR) hg (by omega) (by decide) (by decide) a5 d4 i4 True.intro fun s6 a6 F6 => ?_
  repeat walk_at "ds"
  try refine bx_add_tup (Nat.le_of_ble_eq_true rfl) ?_
  repeat walk_at "ds"
  exact h _ ((((F2.trans F3).trans F4).trans F5).trans F6).trim
theorem pulled_main {l : Nat} {d : D} {g : List Str} {s : St} {Q : Cl → St → Prop} (hR : RG (WG 4) d g) (hg : Gd (gMain g)) (hgl : (gMain g).length ≤ 100000) (hs : s[l]? = some (lnO (gMain g) 0 0)) (h : ∀ s', Fr l s s' → Q (.sh (.tuple [d])) s') : FRun f_Line_pulled_main [.lo l] s Q := by
  have hl := lt_of_at hs
  have d0 : (gMain g).drop 0 = ("main" : Str) :: (gRows [g] ++ []) := by simp [gMain]
  have d1 := drop_one d0
  unfold gMain at hg
  obtain ⟨_, hg⟩ := gd_tail hg
  have hgl2 : (gRows [g]).length ≤ 100000 := by
    simp only [gMain, List.length_cons] at hgl
    omega
  refine frun_fn rfl ?_
  unfold m_Line_pulled_main
  repeat walk_at "ds"
  refine ⟨_, hs, rfl, ?_⟩
  repeat walk_at "ds"
  refine expect hs d0 (by decide) fun s2 a2 F2 => ?_
  repeat walk_at "ds"
  refine ⟨_, a2, rfl, ?_⟩
  repeat walk_at "ds"
  refine pulled_rows (rs1_of hR) hg hgl2 (by decide) (by decide) a2 d1 (drop_lt' d0) True.intro fun s6 a6 F6 => ?_
  repeat walk_at "ds"
  exact h _ (F2.trans F6).trim
theorem read_lines {defs : List D} {main : D} {gds : List (List Str)} {gm : List Str} {s : St} {Q : Cl → St → Prop} (hP : PG defs main gds gm) (hg : ∀ g ∈ gds, Gd g ∧ g.length ≤ 100000) (hm : Gd (gMain gm)) (hml : (gMain gm).length ≤ 100000) (h : ∀ s', Fz s s' → Q (.sh (.tuple [.tuple defs, main])) s') : FRun f_read_lines [.sh (.list ((lines gds gm).map PyData.str))] s Q := by
  have hl := all2_len hP.defs
  have h6 := hP.six
  have e0 : (lines gds gm).map PyData.str = (gds.map fun g => PyData.str (txt g)) ++ [.str (txt (gMain gm))] := by simp [lines]
  rw [e0]
  refine frun_fn rfl ?_
  unfold m_read_lines
  repeat walk_at "ds"
  rw [cut_last]
  repeat walk_at "ds"
  refine ⟨line_of (by rw [List.length_map]; omega), ?_⟩
  refine run_compL _ (fun i ys e s' => ys = defs.take i ∧ Fz s s' ∧ e = [.sh (.list ((gds.map fun g => PyData.str (txt g)) ++ [.str (txt (gMain gm))])), .no]) ?_ (fun i d ys e s' hd hJ => ?_) fun ys e s' hJ => ?_
  · exact ⟨by simp, Fz.refl _, rfl⟩
  · obtain ⟨rfl, F, rfl⟩ := hJ
    rw [List.getElem?_map] at hd
    obtain ⟨g, hgi, rfl⟩ := Option.map_eq_some_iff.mp hd
    have hi := (List.getElem?_eq_some_iff.mp hgi).1
    obtain ⟨g', hg', hD⟩ := all2_at hP.defs (List.getElem?_eq_getElem (show i < defs.length by omega))
    rw [hgi] at hg'
    cases hg'
    have hgm := List.mem_of_getElem? hgi
    obtain ⟨q1, q2⟩ := hg g hgm
    have hne : g ≠ [] := by
      obtain ⟨_, _, _, _, _, _, _, _, _, _, rfl⟩ := hD
      simp [gDef]
    refine ⟨_, rfl, ?_⟩
    repeat walk_at "ds"
    have at0 : (s' ++ [Ob.ins "Line" []])[s'.length]? = some (.ins "Line" []) := app_new
    refine line_init at0 hne q1 (hP.sz g hgm) fun s2 a2 F2 => ?_
    repeat walk_at "ds"
    refine ⟨rfl, _, a2, rfl, ?_⟩
    repeat walk_at "ds"
    refine pulled_def hD q1 q2 a2 fun s3 F3 => ?_
    repeat walk_at "ds"
    have F4 : Fz s' s3 := by
      have f := F2.trans F3
      exact ⟨by have := f.1; simp at this; omega, fun j hj => (f.2 j (by simp; omega) (by omega)).trans (app_old hj)⟩
    refine ⟨?_, F.trans F4, rfl⟩
    rw [List.take_add_one, List.getElem?_eq_getElem (show i < defs.length by omega)]
    rfl
  · obtain ⟨rfl, F, rfl⟩ := hJ
    rw [List.length_map, ← hl, List.take_length]
    repeat walk_at "ds"
    refine ⟨_, shL_map _, ?_⟩
    repeat walk_at "ds"
    refine bx_ix_lst (ix_last _ _) ?_
    repeat walk_at "ds"
    have at0 : (s' ++ [Ob.ins "Line" []])[s'.length]? = some (.ins "Line" []) := app_new
    refine line_init at0 (by simp [gMain]) hm hP.sm fun s2 a2 F2 => ?_
    repeat walk_at "ds"
    refine ⟨rfl, _, a2, rfl, ?_⟩
    repeat walk_at "ds"
    refine pulled_main hP.main hm hml a2 fun s3 F3 => ?_
    repeat walk_at "ds"
    try refine bx_add_tup (Nat.le_of_ble_eq_true rfl) ?_
    repeat walk_at "ds"
    have F4 : Fz s' s3 := by
      have f := F2.trans F3
      exact ⟨by have := f.1; simp at this; omega, fun j hj => (f.2 j (by simp; omega) (by omega)).trans (app_old hj)⟩
    exact h _ (F.trans F4).trim
theorem read_program {defs : List D} {main : D} {gds : List (List Str)} {gm : List Str} {s : St} {Q : Cl → St → Prop} (hP : PG defs main gds gm) (hg : ∀ g ∈ gds, Gd g ∧ g.length ≤ 100000) (hm : Gd (gMain gm)) (hml : (gMain gm).length ≤ 100000) (hF : FProg (.tuple [.tuple defs, main])) (hB : progB (.tuple [.tuple defs, main]) = true)
    (h : ∀ s', Fz s s' → Q (.sh (.tuple [.tuple defs, main])) s') : FRun f_read_program [.sh (.str (text gds gm))] s Q := by
  have hlen : (text gds gm).length ≤ 16777000 := by
    have h1 := join_len (lines gds gm)
    have h2 := hP.join7
    exact Nat.le_trans h1 (Nat.le_trans h2 (by decide))
  refine frun_fn rfl ?_
  unfold m_read_program
  repeat walk_at "ds"
  refine bx_split rfl (by unfold sizeLine; omega) ?_
  rw [lines_split (fun g h => (hg g h).1) hm]
  repeat walk_at "ds"
  refine read_lines hP hg hm hml fun s2 F2 => ?_
  repeat walk_at "ds"
  refine is_program_s hF fun s3 F3 => ?_
  rw [hB]
  repeat walk_at "ds"
  refine show_program hP fun s4 F4 => ?_
  repeat walk_at "ds"
  exact h _ ((F2.trans F3).trans F4).trim
end Ds.K06
namespace Ds.K06
open PySem PySem.Spec PyProof.Rows L2 Dn TL
inductive P0 : Nat → D → Prop where
  | str {n : Nat} {x : Str} : P0 n (.str x)
  | int {n : Nat} {i : Int} : P0 n (.int i)
  | tup {n : Nat} {ds : List D} : (∀ d ∈ ds, P0 n d) → P0 (n + 1) (.tuple ds)
inductive Pl : Nat → D → Prop where
  | str {n : Nat} {x : Str} : Pl n (.str x)
  | int {n : Nat} {i : Int} : Pl n (.int i)
  | tup {n : Nat} {ds : List D} : ds.length ≤ 1000 → (∀ d ∈ ds, Pl n d) → Pl (n + 1) (.tuple ds)
theorem P0.mono {n m : Nat} {d : D} (h : P0 n d) (k : n ≤ m) : P0 m d := by
  induction h generalizing m with
  | str => exact .str
  | int => exact .int
  | @tup n ds h ih =>
    obtain ⟨m, rfl⟩ : ∃ m', m = m' + 1 := ⟨m - 1, by omega⟩
    exact .tup fun d hd => ih d hd (by omega)
theorem P0.fine {n m : Nat} {d : D} (h : P0 n d) (f : Fine m d) : Pl n d := by
  induction h generalizing m with
  | str => exact .str
  | int => exact .int
  | @tup n ds h ih => exact .tup f.part.1 fun d hd => ih d hd (f.part.2 d hd)
theorem p0_nil {n : Nat} : ∀ x ∈ ([] : List D), P0 n x := fun x hx => nomatch hx
theorem p0_cons {n : Nat} {d : D} {ds : List D} (h : P0 n d) (k : ∀ d ∈ ds, P0 n d) : ∀ x ∈ d :: ds, P0 n x := fun x hx => by
  rcases List.mem_cons.mp hx with rfl | hx
  · exact h
  · exact k x hx
theorem p0_bs {n : Nat} {bs : List Str} : P0 (n + 1) (.tuple (bs.map PyData.str)) := .tup fun d hd => by
  obtain ⟨x, _, rfl⟩ := List.mem_map.mp hd
  exact .str
theorem lg_p0 {w : D} {ts : List Str} (h : LG w ts) : P0 2 w := by
  rcases h.cases' with ⟨k, r, rfl, _, _, _, _, hk, hr, _, _⟩ | ⟨bs, rfl, hb, _⟩ | ⟨x, as, gs, rfl, hx, ha, hg, _⟩
  · refine .tup (p0_cons .str fun d hd => ?_)
    have := hr d hd
    cases d with
    | str x => exact .str
    | int i => exact .int
    | _ => cases this
  · exact .tup (p0_cons .str (p0_cons p0_bs p0_nil))
  · exact .tup (p0_cons .str (p0_cons .str (p0_cons p0_bs (p0_cons p0_bs p0_nil))))
theorem rg_p0 {P : D → List Str → Prop} {n : Nat} {d : D} {g : List Str} (H : ∀ w ts, P w ts → P0 n w) (h : RG P d g) : P0 (n + 1) d := by
  obtain ⟨ws, gss, rfl, h, _⟩ := h
  refine .tup fun w hw => ?_
  obtain ⟨g, h1, _⟩ := all2_mem h w hw
  exact H _ _ h1
theorem wg_p0 : ∀ (n : Nat) (w : D) (ts : List Str), WG n w ts → P0 (3 * n + 2) w
  | 0, w, ts, h => lg_p0 h
  | n + 1, w, ts, h => by
    rcases h with h | ⟨d, g, rfl, h, _⟩ | ⟨rs, gs, rfl, _, h, _⟩
    · exact (lg_p0 h).mono (by omega)
    · exact (P0.tup (p0_cons .str (p0_cons (rg_p0 (wg_p0 n) h) p0_nil))).mono (by omega)
    · refine (P0.tup (p0_cons .str (p0_cons (n := 3 * n + 4) (.tup (n := 3 * n + 3) fun d hd => ?_) p0_nil))).mono (by omega)
      obtain ⟨g, h1, _⟩ := all2_mem h d hd
      exact rg_p0 (wg_p0 n) h1
theorem prog_p0 {defs : List D} {main : D} {gds : List (List Str)} {gm : List Str} (h : PG defs main gds gm) : P0 18 (.tuple [.tuple defs, main]) := by
  refine .tup (p0_cons (.tup fun d hd => ?_) (p0_cons ((rg_p0 (wg_p0 4) h.main).mono (by decide)) p0_nil))
  obtain ⟨g, ⟨nm, ps, rs, row, g', rfl, _, _, _, hR, _⟩, _⟩ := all2_mem h.defs d hd
  exact (P0.tup (p0_cons .str (p0_cons (p0_bs.mono (show 1 ≤ 15 by decide)) (p0_cons (p0_bs.mono (show 1 ≤ 15 by decide)) (p0_cons ((rg_p0 (wg_p0 4) hR).mono (by decide)) p0_nil))))).mono (by decide)
theorem prog_sh {defs : List D} {main : D} {gds : List (List Str)} {gm : List Str} (h : PG defs main gds gm) : Sh 20 (.tuple [.tuple defs, main]) := by
  refine (Sh.tup (n := 17) (sh_cons (Sh.tup (n := 16) fun d hd => ?_) (sh_cons ((rg_sh (wg_sh 4) h.main).mono (by decide)) sh_nil))).mono (by decide)
  obtain ⟨g, ⟨nm, ps, rs, row, g', rfl, hn, hp, hr, hR, _⟩, _⟩ := all2_mem h.defs d hd
  exact Sh.tup (n := 15) (sh_cons (Sh.str hn.1.ok) (sh_cons (bxs_sh hp) (sh_cons (bxs_sh hr) (sh_cons ((rg_sh (wg_sh 4) hR).mono (by decide)) sh_nil))))
theorem prog_pl {defs : List D} {main : D} {gds : List (List Str)} {gm : List Str} (h : PG defs main gds gm) (f : FProg (.tuple [.tuple defs, main])) : Pl 18 (.tuple [.tuple defs, main]) := by
  have p := prog_p0 h
  have h6 := h.six
  have hl := all2_len h.defs
  cases f with
  | bad z => cases z
  | len z => exact absurd rfl z
  | no z => cases z
  | two fd fm _ =>
    cases p with
    | tup p =>
      have p1 := p (.tuple defs) (by simp)
      have p2 := p main (by simp)
      refine .tup (by simp) fun d hd => ?_
      simp at hd
      rcases hd with rfl | rfl
      · cases p1 with
        | tup p1 =>
          refine .tup (by omega) fun d hd => ?_
          have pd := p1 d hd
          cases fd d hd with
          | no z =>
            obtain ⟨g, ⟨nm, ps, rs, row, g', e, _⟩, _⟩ := all2_mem h.defs _ hd
            subst e
            cases z
          | len z =>
            obtain ⟨g, ⟨nm, ps, rs, row, g', e, _⟩, _⟩ := all2_mem h.defs _ hd
            cases e
            exact absurd rfl z
          | four f1 f2 f3 f4 _ =>
            cases pd with
            | tup pd =>
              refine .tup (by simp) fun d hd => ?_
              have pe := pd d hd
              simp at hd
              rcases hd with rfl | rfl | rfl | rfl
              · exact pe.fine f1
              · exact pe.fine f2
              · exact pe.fine f3
              · exact pe.fine f4
      · exact p2.fine fm
theorem plain_s : ∀ (F n : Nat) (d : D), Pl n d → n < F → ∀ (s : St) (Q : Cl → St → Prop), (∀ s', Fz s s' → Q (.sh (.bool true)) s') → FRun (f_G34 F 0) [.sh d] s Q
  | 0, n, d, hd, hF => absurd hF (by omega)
  | F + 1, n, d, hd, hF => by
    intro s Q h
    show FRun (fnF 1 2 (m__law_plain (f_G34 F))) [.sh d] s Q
    refine frun_fn rfl ?_
    unfold m__law_plain
    cases hd with
    | str =>
      repeat walk_at "ds"
      refine run_isi2 ?_
      repeat walk_at "ds"
      exact h _ (Fz.refl _).trim
    | int =>
      repeat walk_at "ds"
      refine run_isi2 ?_
      repeat walk_at "ds"
      exact h _ (Fz.refl _).trim
    | @tup n ds hl hp =>
      repeat walk_at "ds"
      refine ⟨line_of (by omega), run_compF ds (fun _ => false) (fun d => d) (fun s' => Fz s s') (Fz.refl _) (fun d hd s' F' => ⟨_, rfl, ?_⟩) fun s' F' => ?_⟩
      · repeat walk_at "ds"
        refine plain_s F n d (hp d hd) (by omega) _ _ fun s2 F2 => ?_
        repeat walk_at "ds"
        exact ⟨rfl, (fun z => nomatch z), fun _ => ⟨rfl, F'.trans F2⟩⟩
      · rw [List.filter_eq_nil_iff.mpr (by simp)]
        repeat walk_at "ds"
        have e : PyData.eqv (.list []) (.list []) = true := rfl
        rw [e]
        exact h _ F'.trim
theorem plain {d : D} {s : St} {Q : Cl → St → Prop} (hd : Pl 18 d) (h : ∀ s', Fz s s' → Q (.sh (.bool true)) s') : FRun f__law_plain [.sh d] s Q := plain_s 20 18 d hd (by decide) s Q h
def rowD : D → D
  | .tuple [_, _, _, r] => r
  | _ => .none
theorem right_s {defs : List D} {main : D} {gds : List (List Str)} {gm : List Str} {s : St} {Q : Cl → St → Prop} (hP : PG defs main gds gm) (hg : ∀ g ∈ gds, Gd g ∧ g.length ≤ 100000) (hm : Gd (gMain gm)) (hml : (gMain gm).length ≤ 100000) (hF : FProg (.tuple [.tuple defs, main])) (hB : progB (.tuple [.tuple defs, main]) = true)
    (h : ∀ s', Fz s s' → Q (.sh (.bool true)) s') : FRun f__law_right [.sh (.tuple [.tuple defs, main])] s Q := by
  have hl := all2_len hP.defs
  have h6 := hP.six
  have S := prog_sh hP
  have hpl := prog_pl hP hF
  refine frun_fn rfl ?_
  unfold m__law_right
  repeat walk_at "ds"
  try refine bx_ix_tup rfl ?_
  repeat walk_at "ds"
  refine run_forL _ (fun i e s' => ∃ z2 z3 z4 z5 z6 z7 z8 z9 z10 z11 : Cl, s'[s.length]? = some (.lst ((((gds.take i).map txt).map PyData.str).map Cl.sh)) ∧ Fz s s' ∧ e = [.sh (.tuple [.tuple defs, main]), .lo s.length, z2, z3, z4, z5, z6, z7, z8, z9, z10, z11]) ?_ (fun i d e s' hd hI => ?_) fun e s' hI => ?_
  · exact ⟨_, _, _, _, _, _, _, _, _, _, app_new, Fz.app, rfl⟩
  · obtain ⟨z2, z3, z4, z5, z6, z7, z8, z9, z10, z11, at1, F, rfl⟩ := hI
    obtain ⟨g, hgi, hD⟩ := all2_at hP.defs hd
    have hgm := List.mem_of_getElem? hgi
    have hT := hP.sz g hgm
    have hi := (List.getElem?_eq_some_iff.mp hgi).1
    obtain ⟨nm, ps, rs, row, g', rfl, hn, hp, hr, hR, rfl⟩ := hD
    obtain ⟨t1, t2, t3, t4⟩ := def_T hT
    have l1 := len_txt (ts := gBoxes ps)
    have l2 := len_txt (ts := gBoxes rs)
    have l3 := len_txt (ts := gRows [g'])
    refine ⟨_, rfl, ?_⟩
    repeat walk_at "ds"
    refine in_brackets t1 ?_
    repeat walk_at "ds"
    refine in_brackets t2 ?_
    repeat walk_at "ds"
    refine ⟨_, at1, ?_⟩
    repeat walk_at "ds"
    try refine bx_add_lst (Nat.le_of_ble_eq_true rfl) ?_
    repeat walk_at "ds"
    refine law_braced ⟨[row], [g'], rfl, .cons hR .nil, rfl⟩ t3 fun s2 F2 => ?_
    repeat walk_at "ds"
    try refine bx_add_lst (Nat.le_of_ble_eq_true rfl) ?_
    refine bx_joinL (ns := [("def" : Str), nm, txt (gBoxes ps), txt (gBoxes rs), txt (gRows [g'])]) (by simp) ?_ ?_
    · have l4 : ("def" : Str).length = 3 := rfl
      have l5 : (" " : Str).length = 1 := rfl
      simp only [joinN, List.map_cons, List.map_nil, List.sum_cons, List.sum_nil, List.length_cons, List.length_nil, l4, l5]
      omega
    rw [join_txt, def_txt]
    repeat walk_at "ds"
    have at2 := F2.at_ at1
    refine ⟨_, at2, line_of (by simp; omega), ?_⟩
    refine turn_nx ?_
    refine ⟨_, _, _, _, _, _, _, _, _, _, ?_, (F.trans F2).put (Nat.le_refl _), rfl⟩
    rw [set_same (lt_of_at at2), List.take_add_one, hgi]
    simp
  · obtain ⟨z2, z3, z4, z5, z6, z7, z8, z9, z10, z11, at1, F, rfl⟩ := hI
    rw [hl, List.take_length] at at1
    refine seq_nx ?_
    have l1 := len_txt (ts := gRows [gm])
    have t1 := main_T hP.sm
    have l2 : ("main " : Str).length = 5 := rfl
    repeat walk_at "ds"
    try refine bx_ix_tup rfl ?_
    repeat walk_at "ds"
    refine law_braced ⟨[main], [gm], rfl, .cons hP.main .nil, rfl⟩ t1 fun s2 F2 => ?_
    repeat (first | walk_at "ds" | refine bx_add_str (line_of (by simp only [len_append]; omega)) ?_ | refine bx_ix_tup rfl ?_)
    rw [head_txt ("main " : Str) (k := "main") (by decide) (gR_ne [gm])]
    have at2 := F2.at_ at1
    refine ⟨_, _, snap_list at2, rfl, line_of (by simp; omega), ?_⟩
    repeat walk_at "ds"
    refine ⟨_, shL_map _, ?_⟩
    refine bx_joinL (ns := lines gds gm) (by simp [lines, gMain]) hP.join ?_
    repeat walk_at "ds"
    try refine bx_ix_tup rfl ?_
    repeat walk_at "ds"
    refine ⟨line_of (by omega), run_map' _ rowD (fun d hd => ⟨_, rfl, ?_⟩) ?_⟩
    · obtain ⟨g, ⟨nm, ps, rs, row, g', rfl, _⟩, _⟩ := all2_mem hP.defs d hd
      repeat walk_at "ds"
      try refine bx_ix_tup rfl ?_
      repeat walk_at "ds"
      exact ⟨rfl, rfl, rfl⟩
    repeat walk_at "ds"
    refine ⟨_, shL_map _, ?_⟩
    repeat walk_at "ds"
    try refine bx_ix_tup rfl ?_
    repeat walk_at "ds"
    refine bx_add_lst (line_of (by simp; omega)) ?_
    repeat walk_at "ds"
    refine ⟨line_of (by simp; omega), run_compF _ (fun _ => false) (fun d => d) (fun s' => Fz s2 s') (Fz.refl _) (fun d hd s' F' => ⟨_, rfl, ?_⟩) fun s3 F3 => ?_⟩
    · have hR : ∃ g, RG (WG 4) d g ∧ (T g).length ≤ 1000000 := by
        rcases List.mem_append.mp hd with hd | hd
        · obtain ⟨d', hd', rfl⟩ := List.mem_map.mp hd
          obtain ⟨g, ⟨nm, ps, rs, row, g', rfl, _, _, _, hR, rfl⟩, hgm⟩ := all2_mem hP.defs d' hd'
          have t3 := (def_T (hP.sz _ hgm)).2.2.1
          rw [T_rows] at t3
          exact ⟨g', hR, by have : bars [g'] = g' := rfl; rw [this] at t3; omega⟩
        · simp at hd
          subst hd
          rw [T_rows] at t1
          exact ⟨gm, hP.main, by have : bars [gm] = gm := rfl; rw [this] at t1; omega⟩
      obtain ⟨g, hR, hT⟩ := hR
      repeat walk_at "ds"
      refine show_row hR hT fun s4 F4 => ?_
      repeat walk_at "ds"
      refine law_text hR hT fun s5 F5 => ?_
      repeat walk_at "ds"
      have e : (!decide (txt g = txt g)) = false := by simp
      exact ⟨e, (fun z => by rw [e] at z; cases z), fun _ => ⟨rfl, F'.trans (F4.trans F5)⟩⟩
    · rw [List.filter_eq_nil_iff.mpr (by simp)]
      repeat walk_at "ds"
      refine show_program hP fun s4 F4 => ?_
      repeat walk_at "ds"
      refine two_dec (fun _ => ?_) (fun z => absurd (show text gds gm = Txt.join "\n" (lines gds gm) from rfl) z)
      repeat walk_at "ds"
      have e0 : (!PyData.eqv (.list []) (.list [])) = false := rfl
      try rw [e0]
      repeat walk_at "ds"
      refine read_program hP hg hm hml hF hB fun s5 F5 => ?_
      repeat walk_at "ds"
      refine bx_eq (.inl rfl) S.ok S.ok ?_
      rw [S.same]
      repeat walk_at "ds"
      refine plain hpl fun s6 F6 => ?_
      repeat walk_at "ds"
      refine show_program hP fun s7 F7 => ?_
      repeat walk_at "ds"
      have e : decide (text gds gm = Txt.join "\n" (lines gds gm)) = true := decide_eq_true rfl
      rw [e]
      exact h _ ((((((F.trans F2).trans F3).trans F4).trans F5).trans F6).trans F7).trim
theorem nil_right {s : St} {Q : Cl → St → Prop} (h : ∀ s', Fz s s' → Q (.sh (.bool true)) s') : FRun f__law_right [.sh (.tuple [.tuple [], .tuple []])] s Q :=
  right_s (gds := []) (gm := []) ⟨.nil, ⟨[], [], rfl, .nil, rfl⟩, by simp, by simp, by decide⟩ (by simp) (.cons (tk_lit _ (by decide)) (rows_gd fun x hx => by simp at hx; subst hx; exact .nil)) (by decide) (.two (by simp) (.tup (by simp) rfl fa_nil) rfl) rfl h
def main0 : D := .tuple [.tuple [.str "loop", .tuple []], .tuple [.str "choose", .tuple [.tuple [], .tuple []]], .tuple [.str "choose", .tuple [.tuple []]]]
def gm0 : List Str := [("loop" : Str) :: gRows [[]], ("choose" : Str) :: gRows [[], []], ("choose" : Str) :: gRows [[]]].flatten
theorem e_row {n : Nat} : RG (WG n) (.tuple []) [] := ⟨[], [], rfl, .nil, rfl⟩
theorem gm0_gd : Gd gm0 := fun t ht => by
  have : ∀ t ∈ gm0, (decide (t ≠ "") && (decide (t.length ≤ 20) && (tl t).all fun c => decide (c ≠ 32 ∧ c ≠ 10 ∧ c < 128))) = true := by decide +kernel
  exact tk_lit t (this t ht)
theorem fine0 : Fine 13 main0 := by
  have e : Fine 6 (.tuple []) := .tup (by simp) rfl fa_nil
  refine .tup (n := 12) (by simp) rfl (fa_cons ?_ (fa_cons ?_ (fa_cons ?_ fa_nil)))
  · exact .tup (n := 11) (by simp) rfl (fa_cons (.str (Ok.lit _ _ (by decide))) (fa_cons (e.mono (by decide)) fa_nil))
  · refine .chs (n := 11) (by simp) rfl (fun d hd => ?_) (fa_cons (e.mono (by decide)) (fa_cons (e.mono (by decide)) fa_nil))
    simp at hd
    subst hd
    rfl
  · refine .chs (n := 11) (by simp) rfl (fun d hd => ?_) (fa_cons (e.mono (by decide)) fa_nil)
    simp at hd
    subst hd
    rfl
theorem const_right {s : St} {Q : Cl → St → Prop} (h : ∀ s', Fz s s' → Q (.sh (.bool true)) s') : FRun f__law_right [.sh (.tuple [.tuple [], main0])] s Q := by
  refine right_s (gds := []) (gm := gm0) ⟨.nil, ⟨_, [("loop" : Str) :: gRows [[]], ("choose" : Str) :: gRows [[], []], ("choose" : Str) :: gRows [[]]], rfl, ?_, rfl⟩, by simp, by simp, by decide +kernel⟩ (by simp) (.cons (tk_lit _ (by decide)) (rows_gd fun x hx => by simp at hx; subst hx; exact gm0_gd)) (by decide +kernel) (.two (by simp) fine0 rfl) (by decide +kernel) h
  refine .cons (.inr (.inl ⟨_, _, rfl, e_row, rfl⟩)) (.cons (.inr (.inr ⟨_, _, rfl, by simp, .cons e_row (.cons e_row .nil), rfl⟩)) (.cons (.inr (.inr ⟨_, _, rfl, by simp, .cons e_row .nil, rfl⟩)) .nil))
theorem all2_up {P Q : D → List Str → Prop} (k : ∀ w g, P w g → Q w g) {ws : List D} {gs : List (List Str)} (h : All2 P ws gs) : All2 Q ws gs := h.imp k
theorem wg_up : ∀ (n : Nat) (w : D) (ts : List Str), WG n w ts → WG (n + 1) w ts
  | 0, w, ts, h => .inl h
  | n + 1, w, ts, h => by
    have up : ∀ d g, RG (WG n) d g → RG (WG (n + 1)) d g := fun d g ⟨ws, gss, e1, hA, e2⟩ => ⟨ws, gss, e1, all2_up (wg_up n) hA, e2⟩
    rcases h with h | ⟨d, g, e, h, e2⟩ | ⟨rs, gs, e, hl, h, e2⟩
    · exact .inl h
    · exact .inr (.inl ⟨d, g, e, up d g h, e2⟩)
    · exact .inr (.inr ⟨rs, gs, e, hl, all2_up up h, e2⟩)
theorem all2_of {P : D → List Str → Prop} {O : List Str → Prop} : ∀ {ds : List D}, (∀ d ∈ ds, ∃ g, P d g ∧ O g) → ∃ gs, All2 P ds gs ∧ (∀ g ∈ gs, O g) ∧ gs.length = ds.length
  | [], _ => ⟨[], .nil, by simp, rfl⟩
  | d :: ds, h => by
    obtain ⟨g, h1, h2⟩ := h d List.mem_cons_self
    obtain ⟨gs, g1, g2, g3⟩ := all2_of fun d hd => h d (List.mem_cons_of_mem _ hd)
    refine ⟨g :: gs, .cons h1 g1, fun x hx => ?_, by simp [g3]⟩
    rcases List.mem_cons.mp hx with rfl | hx
    · exact h2
    · exact g2 x hx
theorem prog_right {p : KP} {kns : Kn} {defs : List D} {main : D} {s : St} {Q : Cl → St → Prop} (P : KPok p) (R : Prog p kns defs main) (h : ∀ s', Fz s s' → Q (.sh (.bool true)) s') : FRun f__law_right [.sh (.tuple [.tuple defs, main])] s Q := by
  have ok := prog_ok P R
  have hk : ∀ x ∈ kns, nameB x.1 = true := fun x hx => by
    have h1 : x.1 ∈ kns.map Prod.fst := List.mem_map.mpr ⟨x, hx, rfl⟩
    rw [keys_take R] at h1
    exact nm_name (P.c.nm _ (List.mem_of_mem_take h1)).1
  have hd : ∀ d ∈ defs, ∃ g, DG d g ∧ (Gd g ∧ g.length ≤ 900) := fun d hd => by
    obtain ⟨i, hi, e⟩ := List.getElem_of_mem hd
    obtain ⟨nm, as, gs, row, m, L, h1, h2, rfl, h4, h5, h6, h7, h8, h9⟩ := R.df i d (by rw [List.getElem?_eq_getElem hi, e])
    obtain ⟨g, g1, g2, g3⟩ := rwf_g h9 fun k L w hw _ => wd_g P (fun x hx => hk x (List.mem_of_mem_take hx)) 3 0 k L w (by decide) hw
    have nb := name_tk (nm_name (P.c.nm nm (List.mem_of_getElem? h1)).1)
    obtain ⟨ws, gss, e1, hA, e2⟩ := g1
    refine ⟨_, ⟨nm, as, gs, row, g, rfl, nb, sub_bk P h4, sub_bk P h5, ⟨ws, gss, e1, all2_up (wg_up 3) hA, e2⟩, rfl⟩, .cons (tk_lit _ (by decide)) (.cons nb.1 (.app (boxes_gd (sub_bk P h4)) (.app (boxes_gd (sub_bk P h5)) (rows_gd fun x hx => by simp at hx; subst hx; exact g2)))), ?_⟩
    have := rows_len [g]
    simp only [List.flatten_cons, List.flatten_nil, List.append_nil, List.length_cons, List.length_nil] at this
    simp only [gDef, List.length_cons, List.length_append, gBoxes_len]
    omega
  obtain ⟨gds, a1, a2, a3⟩ := all2_of hd
  obtain ⟨m, L, hm, hR⟩ := R.main
  obtain ⟨gm, m1, m2, m3⟩ := rwf_g hR fun k L w hw _ => wd_g P hk 4 0 k L w (by decide) hw
  have mg : Gd (gMain gm) := .cons (tk_lit _ (by decide)) (rows_gd fun x hx => by simp at hx; subst hx; exact m2)
  have ml : (gMain gm).length ≤ 900 := by
    have := rows_len [gm]
    simp only [List.flatten_cons, List.flatten_nil, List.append_nil, List.length_cons, List.length_nil] at this
    simp only [gMain, List.length_cons]
    omega
  have six := R.six
  have len := R.len
  refine right_s ⟨a1, m1, by omega, fun g hg => ?_, ?_⟩ (fun g hg => ⟨(a2 g hg).1, by have := (a2 g hg).2; omega⟩) mg (by omega) ok.2 ok.1 h
  · have := gd_T (a2 g hg).1
    have := (a2 g hg).2
    omega
  · have := gd_T mg
    omega
theorem good : Good := by
  intro ns hns
  suffices H : FRun f_law [.sh (.list (ns.map PyData.int))] [] fun c s => c = .sh (.bool true) by
    obtain ⟨c, s', h1, rfl⟩ := H.to
    exact ⟨s', h1⟩
  refine frun_fn rfl ?_
  unfold m_law
  repeat walk_at "ds"
  generalize hv : (if (if (8 : Int) < ((ns.map PyData.int).length : Int) then (8 : Int) else ((ns.map PyData.int).length : Int)) > 1 then (if (8 : Int) < ((ns.map PyData.int).length : Int) then (8 : Int) else ((ns.map PyData.int).length : Int)) else 1) = v
  clear hv
  refine run_forL _ (fun i e s' => ∃ z1 z2, e = [.sh (.list (ns.map PyData.int)), z1, z2]) ⟨_, _, rfl⟩ (fun i_ d e s' hd hI => ?_) fun e s' hI => ?_
  · obtain ⟨z1, z2, rfl⟩ := hI
    obtain ⟨rfl, hi⟩ := rngD_at hd
    refine ⟨_, rfl, ?_⟩
    repeat walk_at "ds"
    refine deck (by omega) fun st hst => ?_
    repeat walk_at "ds"
    refine kit (c := 0) ⟨st, app_new, hst⟩ (by omega) fun p k q s1 P K => ?_
    repeat walk_at "ds"
    refine program K P (by omega) fun kns defs main s2 R hK => ?_
    obtain ⟨m, L, hm, ws, rfl, hS⟩ := R.main
    repeat walk_at "ds"
    refine prog_right P R fun s3 F3 => ?_
    repeat walk_at "ds"
    try refine bx_ix_tup rfl ?_
    repeat walk_at "ds"
    rw [show Dn.cutD ws none (some 0) = [] from (cut_to (k := 0)).trans (List.take_zero)]
    refine nil_right fun s4 F4 => ?_
    repeat walk_at "ds"
    exact ⟨_, _, rfl⟩
  · obtain ⟨z1, z2, rfl⟩ := hI
    refine seq_nx ?_
    repeat walk_at "ds"
    refine const_right fun s4 F4 => ?_
    repeat walk_at "ds"
    rfl
end Ds.K06
namespace Ds.K06
open PySem PySem.Spec PyProof.Rows L2 Dn
def topS (i : Nat) : Stmt := PySem.Challenge.pw_wipeways_k06_programs_written.main.body.getD i (.Pass ⟨0, 0, 0, 0⟩)
abbrev s_is_name : Stmt := topS 7
abbrev N_is_name : List Str := ["thing", "sign"]
theorem sc_is_name : FnScope N_is_name ["thing"] (defScope s_is_name) := ⟨rfl, rfl, rfl, by decide +kernel, rfl, by decide +kernel, by decide +kernel⟩
abbrev s_is_box : Stmt := topS 8
abbrev N_is_box : List Str := ["thing", "parts", "part"]
theorem sc_is_box : FnScope N_is_box ["thing"] (defScope s_is_box) := ⟨rfl, rfl, rfl, by decide +kernel, rfl, by decide +kernel, by decide +kernel⟩
abbrev s_is_whole : Stmt := topS 15
abbrev N_is_whole : List Str := ["thing", "least", "most"]
theorem sc_is_whole : FnScope N_is_whole ["thing", "least", "most"] (defScope s_is_whole) := ⟨rfl, rfl, rfl, by decide +kernel, rfl, by decide +kernel, by decide +kernel⟩
abbrev s_are_boxes : Stmt := topS 16
abbrev N_are_boxes : List Str := ["thing", "one"]
theorem sc_are_boxes : FnScope N_are_boxes ["thing"] (defScope s_are_boxes) := ⟨rfl, rfl, rfl, by decide +kernel, rfl, by decide +kernel, by decide +kernel⟩
abbrev s_is_calling : Stmt := topS 17
abbrev N_is_calling : List Str := ["rest", "known"]
theorem sc_is_calling : FnScope N_is_calling ["rest", "known"] (defScope s_is_calling) := ⟨rfl, rfl, rfl, by decide +kernel, rfl, by decide +kernel, by decide +kernel⟩
abbrev s_is_plain : Stmt := topS 18
abbrev N_is_plain : List Str := ["word", "rest", "one"]
theorem sc_is_plain : FnScope N_is_plain ["word", "rest"] (defScope s_is_plain) := ⟨rfl, rfl, rfl, by decide +kernel, rfl, by decide +kernel, by decide +kernel⟩
abbrev s_is_word : Stmt := topS 19
abbrev N_is_word : List Str := ["thing", "known", "around", "word", "rest", "row"]
theorem sc_is_word : FnScope N_is_word ["thing", "known", "around"] (defScope s_is_word) := ⟨rfl, rfl, rfl, by decide +kernel, rfl, by decide +kernel, by decide +kernel⟩
abbrev s_is_row : Stmt := topS 20
abbrev N_is_row : List Str := ["thing", "known", "around", "one"]
theorem sc_is_row : FnScope N_is_row ["thing", "known", "around"] (defScope s_is_row) := ⟨rfl, rfl, rfl, by decide +kernel, rfl, by decide +kernel, by decide +kernel⟩
abbrev s_is_def : Stmt := topS 21
abbrev N_is_def : List Str := ["thing", "known"]
theorem sc_is_def : FnScope N_is_def ["thing", "known"] (defScope s_is_def) := ⟨rfl, rfl, rfl, by decide +kernel, rfl, by decide +kernel, by decide +kernel⟩
abbrev s_is_program : Stmt := topS 22
abbrev N_is_program : List Str := ["thing", "known", "one"]
theorem sc_is_program : FnScope N_is_program ["thing"] (defScope s_is_program) := ⟨rfl, rfl, rfl, by decide +kernel, rfl, by decide +kernel, by decide +kernel⟩
abbrev s_show_boxes : Stmt := topS 27
abbrev N_show_boxes : List Str := ["boxes"]
theorem sc_show_boxes : FnScope N_show_boxes ["boxes"] (defScope s_show_boxes) := ⟨rfl, rfl, rfl, by decide +kernel, rfl, by decide +kernel, by decide +kernel⟩
abbrev s_show_rows : Stmt := topS 28
abbrev N_show_rows : List Str := ["rows", "parts", "number", "row"]
theorem sc_show_rows : FnScope N_show_rows ["rows"] (defScope s_show_rows) := ⟨rfl, rfl, rfl, by decide +kernel, rfl, by decide +kernel, by decide +kernel⟩
abbrev s_show_word : Stmt := topS 29
abbrev N_show_word : List Str := ["word", "part"]
theorem sc_show_word : FnScope N_show_word ["word"] (defScope s_show_word) := ⟨rfl, rfl, rfl, by decide +kernel, rfl, by decide +kernel, by decide +kernel⟩
abbrev s_show_row : Stmt := topS 30
abbrev N_show_row : List Str := ["row", "word"]
theorem sc_show_row : FnScope N_show_row ["row"] (defScope s_show_row) := ⟨rfl, rfl, rfl, by decide +kernel, rfl, by decide +kernel, by decide +kernel⟩
abbrev s_show_def : Stmt := topS 31
abbrev N_show_def : List Str := ["one", "name", "params", "results", "row"]
theorem sc_show_def : FnScope N_show_def ["one"] (defScope s_show_def) := ⟨rfl, rfl, rfl, by decide +kernel, rfl, by decide +kernel, by decide +kernel⟩
abbrev s_show_program : Stmt := topS 32
abbrev N_show_program : List Str := ["program", "lines", "one"]
theorem sc_show_program : FnScope N_show_program ["program"] (defScope s_show_program) := ⟨rfl, rfl, rfl, by decide +kernel, rfl, by decide +kernel, by decide +kernel⟩
abbrev s_Line___init__ : Stmt := inClass (topS 33) 0
abbrev N_Line___init__ : List Str := ["self", "text"]
theorem sc_Line___init__ : FnScope N_Line___init__ ["self", "text"] (defScope s_Line___init__) := ⟨rfl, rfl, rfl, by decide +kernel, rfl, by decide +kernel, by decide +kernel⟩
abbrev s_Line_group_ahead : Stmt := inClass (topS 33) 1
abbrev N_Line_group_ahead : List Str := ["self"]
theorem sc_Line_group_ahead : FnScope N_Line_group_ahead ["self"] (defScope s_Line_group_ahead) := ⟨rfl, rfl, rfl, by decide +kernel, rfl, by decide +kernel, by decide +kernel⟩
abbrev s_Line_pulled : Stmt := inClass (topS 33) 2
abbrev N_Line_pulled : List Str := ["self", "group"]
theorem sc_Line_pulled : FnScope N_Line_pulled ["self"] (defScope s_Line_pulled) := ⟨rfl, rfl, rfl, by decide +kernel, rfl, by decide +kernel, by decide +kernel⟩
abbrev s_Line_expect : Stmt := inClass (topS 33) 3
abbrev N_Line_expect : List Str := ["self", "group"]
theorem sc_Line_expect : FnScope N_Line_expect ["self", "group"] (defScope s_Line_expect) := ⟨rfl, rfl, rfl, by decide +kernel, rfl, by decide +kernel, by decide +kernel⟩
abbrev s_Line_pulled_boxes : Stmt := inClass (topS 33) 5
abbrev N_Line_pulled_boxes : List Str := ["self", "found"]
theorem sc_Line_pulled_boxes : FnScope N_Line_pulled_boxes ["self"] (defScope s_Line_pulled_boxes) := ⟨rfl, rfl, rfl, by decide +kernel, rfl, by decide +kernel, by decide +kernel⟩
abbrev s_Line_pulled_number : Stmt := inClass (topS 33) 4
abbrev N_Line_pulled_number : List Str := ["self", "group", "sign"]
theorem sc_Line_pulled_number : FnScope N_Line_pulled_number ["self"] (defScope s_Line_pulled_number) := ⟨rfl, rfl, rfl, by decide +kernel, rfl, by decide +kernel, by decide +kernel⟩
abbrev s_Line_pulled_rows : Stmt := inClass (topS 33) 6
abbrev N_Line_pulled_rows : List Str := ["self", "found"]
theorem sc_Line_pulled_rows : FnScope N_Line_pulled_rows ["self"] (defScope s_Line_pulled_rows) := ⟨rfl, rfl, rfl, by decide +kernel, rfl, by decide +kernel, by decide +kernel⟩
abbrev s_Line_pulled_row : Stmt := inClass (topS 33) 7
abbrev N_Line_pulled_row : List Str := ["self", "found"]
theorem sc_Line_pulled_row : FnScope N_Line_pulled_row ["self"] (defScope s_Line_pulled_row) := ⟨rfl, rfl, rfl, by decide +kernel, rfl, by decide +kernel, by decide +kernel⟩
abbrev s_Line_pulled_word : Stmt := inClass (topS 33) 8
abbrev N_Line_pulled_word : List Str := ["self", "word", "k"]
theorem sc_Line_pulled_word : FnScope N_Line_pulled_word ["self"] (defScope s_Line_pulled_word) := ⟨rfl, rfl, rfl, by decide +kernel, rfl, by decide +kernel, by decide +kernel⟩
abbrev s_Line_pulled_def : Stmt := inClass (topS 33) 9
abbrev N_Line_pulled_def : List Str := ["self", "name", "params", "results", "rows"]
theorem sc_Line_pulled_def : FnScope N_Line_pulled_def ["self"] (defScope s_Line_pulled_def) := ⟨rfl, rfl, rfl, by decide +kernel, rfl, by decide +kernel, by decide +kernel⟩
abbrev s_Line_pulled_main : Stmt := inClass (topS 33) 10
abbrev N_Line_pulled_main : List Str := ["self"]
theorem sc_Line_pulled_main : FnScope N_Line_pulled_main ["self"] (defScope s_Line_pulled_main) := ⟨rfl, rfl, rfl, by decide +kernel, rfl, by decide +kernel, by decide +kernel⟩
abbrev s_read_lines : Stmt := topS 34
abbrev N_read_lines : List Str := ["lines", "line"]
theorem sc_read_lines : FnScope N_read_lines ["lines"] (defScope s_read_lines) := ⟨rfl, rfl, rfl, by decide +kernel, rfl, by decide +kernel, by decide +kernel⟩
abbrev s_read_program : Stmt := topS 35
abbrev N_read_program : List Str := ["text", "program"]
theorem sc_read_program : FnScope N_read_program ["text"] (defScope s_read_program) := ⟨rfl, rfl, rfl, by decide +kernel, rfl, by decide +kernel, by decide +kernel⟩
abbrev s__law_deck : Stmt := topS 37
abbrev N__law_deck : List Str := ["_law_script", "_law_k", "_law_cell"]
theorem sc__law_deck : FnScope N__law_deck ["_law_script", "_law_k"] (defScope s__law_deck) := ⟨rfl, rfl, rfl, by decide +kernel, rfl, by decide +kernel, by decide +kernel⟩
abbrev s__law_draw : Stmt := topS 38
abbrev N__law_draw : List Str := ["_law_deck_here", "_law_many", "_law_number", "_law_got"]
theorem sc__law_draw : FnScope N__law_draw ["_law_deck_here", "_law_many"] (defScope s__law_draw) := ⟨rfl, rfl, rfl, by decide +kernel, rfl, by decide +kernel, by decide +kernel⟩
abbrev s__law_names : Stmt := topS 39
abbrev N__law_names : List Str := ["_law_deck_here", "_law_many", "_law_letters", "_law_base", "_law_at", "_law_first", "_law_longer", "_law_got", "_law_k"]
theorem sc__law_names : FnScope N__law_names ["_law_deck_here", "_law_many"] (defScope s__law_names) := ⟨rfl, rfl, rfl, by decide +kernel, rfl, by decide +kernel, by decide +kernel⟩
abbrev s__law_kit : Stmt := topS 40
abbrev N__law_kit : List Str := ["_law_deck_here", "_law_names_here", "_law_boxes", "_law_words", "_law_kit_here"]
theorem sc__law_kit : FnScope N__law_kit ["_law_deck_here"] (defScope s__law_kit) := ⟨rfl, rfl, rfl, by decide +kernel, rfl, by decide +kernel, by decide +kernel⟩
abbrev s__law_some : Stmt := topS 41
abbrev N__law_some : List Str := ["_law_kit_here", "_law_things"]
theorem sc__law_some : FnScope N__law_some ["_law_kit_here", "_law_things"] (defScope s__law_some) := ⟨rfl, rfl, rfl, by decide +kernel, rfl, by decide +kernel, by decide +kernel⟩
abbrev s__law_unlike : Stmt := topS 42
abbrev N__law_unlike : List Str := ["_law_kit_here", "_law_many", "_law_left", "_law_k"]
theorem sc__law_unlike : FnScope N__law_unlike ["_law_kit_here", "_law_many"] (defScope s__law_unlike) := ⟨rfl, rfl, rfl, by decide +kernel, rfl, by decide +kernel, by decide +kernel⟩
abbrev s__law_row : Stmt := topS 43
abbrev N__law_row : List Str := ["_law_kit_here", "_law_deep", "_law_many", "_law_loops", "_law_row_here", "_law_k"]
theorem sc__law_row : FnScope N__law_row ["_law_kit_here", "_law_deep", "_law_many", "_law_loops"] (defScope s__law_row) := ⟨rfl, rfl, rfl, by decide +kernel, rfl, by decide +kernel, by decide +kernel⟩
abbrev s__law_word : Stmt := topS 44
abbrev N__law_word : List Str := ["_law_kit_here", "_law_deep", "_law_loops", "_law_way", "_law_x", "_law_y", "_law_z", "_law_words", "_law_rows", "_law_k", "_law_name", "_law_takes", "_law_gives"]
theorem sc__law_word : FnScope N__law_word ["_law_kit_here", "_law_deep", "_law_loops", "_law_way"] (defScope s__law_word) := ⟨rfl, rfl, rfl, by decide +kernel, rfl, by decide +kernel, by decide +kernel⟩
abbrev s__law_program : Stmt := topS 45
abbrev N__law_program : List Str := ["_law_kit_here", "_law_most", "_law_defs", "_law_name", "_law_wide", "_law_takes", "_law_gives", "_law_row_here"]
theorem sc__law_program : FnScope N__law_program ["_law_kit_here", "_law_most"] (defScope s__law_program) := ⟨rfl, rfl, rfl, by decide +kernel, rfl, by decide +kernel, by decide +kernel⟩
abbrev s__law_in_brackets : Stmt := topS 46
abbrev N__law_in_brackets : List Str := ["_law_boxes", "_law_box"]
theorem sc__law_in_brackets : FnScope N__law_in_brackets ["_law_boxes"] (defScope s__law_in_brackets) := ⟨rfl, rfl, rfl, by decide +kernel, rfl, by decide +kernel, by decide +kernel⟩
abbrev s__law_braced : Stmt := topS 47
abbrev N__law_braced : List Str := ["_law_rows", "_law_parts", "_law_row_here", "_law_part"]
theorem sc__law_braced : FnScope N__law_braced ["_law_rows"] (defScope s__law_braced) := ⟨rfl, rfl, rfl, by decide +kernel, rfl, by decide +kernel, by decide +kernel⟩
abbrev s__law_text : Stmt := topS 48
abbrev N__law_text : List Str := ["_law_row_here", "_law_found", "_law_word_here", "_law_texts", "_law_boxes", "_law_one"]
theorem sc__law_text : FnScope N__law_text ["_law_row_here"] (defScope s__law_text) := ⟨rfl, rfl, rfl, by decide +kernel, rfl, by decide +kernel, by decide +kernel⟩
abbrev s__law_plain : Stmt := topS 49
abbrev N__law_plain : List Str := ["_law_thing", "_law_one"]
theorem sc__law_plain : FnScope N__law_plain ["_law_thing"] (defScope s__law_plain) := ⟨rfl, rfl, rfl, by decide +kernel, rfl, by decide +kernel, by decide +kernel⟩
abbrev s__law_right : Stmt := topS 50
abbrev N__law_right : List Str := ["_law_program_here", "_law_lines", "_law_text_here", "_law_rows", "_law_bad", "_law_found", "_law_name", "_law_params", "_law_results", "_law_row_here", "_law_texts", "_law_one"]
theorem sc__law_right : FnScope N__law_right ["_law_program_here"] (defScope s__law_right) := ⟨rfl, rfl, rfl, by decide +kernel, rfl, by decide +kernel, by decide +kernel⟩
abbrev s_law : Stmt := topS 51
abbrev N_law : List Str := ["_law_script", "_law_k", "_law_program_here"]
theorem sc_law : FnScope N_law ["_law_script"] (defScope s_law) := ⟨rfl, rfl, rfl, by decide +kernel, rfl, by decide +kernel, by decide +kernel⟩
structure Tx (w : World) (K : Frag) (mg : Str → Option Value) where
  a_is_name : Addr
  d_is_name : FuncData
  F_is_name : Fun K "is_name" "is_name" s_is_name a_is_name d_is_name
  b_is_name : Binds K d_is_name ["thing"] []
  g_is_name : mg "is_name" = some (.ref a_is_name)
  a_is_box : Addr
  d_is_box : FuncData
  F_is_box : Fun K "is_box" "is_box" s_is_box a_is_box d_is_box
  b_is_box : Binds K d_is_box ["thing"] []
  g_is_box : mg "is_box" = some (.ref a_is_box)
  a_is_whole : Addr
  d_is_whole : FuncData
  F_is_whole : Fun K "is_whole" "is_whole" s_is_whole a_is_whole d_is_whole
  b_is_whole : Binds K d_is_whole ["thing", "least", "most"] []
  g_is_whole : mg "is_whole" = some (.ref a_is_whole)
  a_are_boxes : Addr
  d_are_boxes : FuncData
  F_are_boxes : Fun K "are_boxes" "are_boxes" s_are_boxes a_are_boxes d_are_boxes
  b_are_boxes : Binds K d_are_boxes ["thing"] []
  g_are_boxes : mg "are_boxes" = some (.ref a_are_boxes)
  a_is_calling : Addr
  d_is_calling : FuncData
  F_is_calling : Fun K "is_calling" "is_calling" s_is_calling a_is_calling d_is_calling
  b_is_calling : Binds K d_is_calling ["rest", "known"] []
  g_is_calling : mg "is_calling" = some (.ref a_is_calling)
  a_is_plain : Addr
  d_is_plain : FuncData
  F_is_plain : Fun K "is_plain" "is_plain" s_is_plain a_is_plain d_is_plain
  b_is_plain : Binds K d_is_plain ["word", "rest"] []
  g_is_plain : mg "is_plain" = some (.ref a_is_plain)
  a_is_word : Addr
  d_is_word : FuncData
  F_is_word : Fun K "is_word" "is_word" s_is_word a_is_word d_is_word
  b_is_word : Binds K d_is_word ["thing", "known", "around"] []
  g_is_word : mg "is_word" = some (.ref a_is_word)
  a_is_row : Addr
  d_is_row : FuncData
  F_is_row : Fun K "is_row" "is_row" s_is_row a_is_row d_is_row
  b_is_row : Binds K d_is_row ["thing", "known", "around"] []
  g_is_row : mg "is_row" = some (.ref a_is_row)
  a_is_def : Addr
  d_is_def : FuncData
  F_is_def : Fun K "is_def" "is_def" s_is_def a_is_def d_is_def
  b_is_def : Binds K d_is_def ["thing", "known"] []
  g_is_def : mg "is_def" = some (.ref a_is_def)
  a_is_program : Addr
  d_is_program : FuncData
  F_is_program : Fun K "is_program" "is_program" s_is_program a_is_program d_is_program
  b_is_program : Binds K d_is_program ["thing"] []
  g_is_program : mg "is_program" = some (.ref a_is_program)
  a_show_boxes : Addr
  d_show_boxes : FuncData
  F_show_boxes : Fun K "show_boxes" "show_boxes" s_show_boxes a_show_boxes d_show_boxes
  b_show_boxes : Binds K d_show_boxes ["boxes"] []
  g_show_boxes : mg "show_boxes" = some (.ref a_show_boxes)
  a_show_rows : Addr
  d_show_rows : FuncData
  F_show_rows : Fun K "show_rows" "show_rows" s_show_rows a_show_rows d_show_rows
  b_show_rows : Binds K d_show_rows ["rows"] []
  g_show_rows : mg "show_rows" = some (.ref a_show_rows)
  a_show_word : Addr
  d_show_word : FuncData
  F_show_word : Fun K "show_word" "show_word" s_show_word a_show_word d_show_word
  b_show_word : Binds K d_show_word ["word"] []
  g_show_word : mg "show_word" = some (.ref a_show_word)
  a_show_row : Addr
  d_show_row : FuncData
  F_show_row : Fun K "show_row" "show_row" s_show_row a_show_row d_show_row
  b_show_row : Binds K d_show_row ["row"] []
  g_show_row : mg "show_row" = some (.ref a_show_row)
  a_show_def : Addr
  d_show_def : FuncData
  F_show_def : Fun K "show_def" "show_def" s_show_def a_show_def d_show_def
  b_show_def : Binds K d_show_def ["one"] []
  g_show_def : mg "show_def" = some (.ref a_show_def)
  a_show_program : Addr
  d_show_program : FuncData
  F_show_program : Fun K "show_program" "show_program" s_show_program a_show_program d_show_program
  b_show_program : Binds K d_show_program ["program"] []
  g_show_program : mg "show_program" = some (.ref a_show_program)
  a_Line___init__ : Addr
  d_Line___init__ : FuncData
  F_Line___init__ : Fun K "__init__" "Line.__init__" s_Line___init__ a_Line___init__ d_Line___init__
  b_Line___init__ : Binds K d_Line___init__ ["self", "text"] []
  a_Line_group_ahead : Addr
  d_Line_group_ahead : FuncData
  F_Line_group_ahead : Fun K "group_ahead" "Line.group_ahead" s_Line_group_ahead a_Line_group_ahead d_Line_group_ahead
  b_Line_group_ahead : Binds K d_Line_group_ahead ["self"] []
  a_Line_pulled : Addr
  d_Line_pulled : FuncData
  F_Line_pulled : Fun K "pulled" "Line.pulled" s_Line_pulled a_Line_pulled d_Line_pulled
  b_Line_pulled : Binds K d_Line_pulled ["self"] []
  a_Line_expect : Addr
  d_Line_expect : FuncData
  F_Line_expect : Fun K "expect" "Line.expect" s_Line_expect a_Line_expect d_Line_expect
  b_Line_expect : Binds K d_Line_expect ["self", "group"] []
  a_Line_pulled_boxes : Addr
  d_Line_pulled_boxes : FuncData
  F_Line_pulled_boxes : Fun K "pulled_boxes" "Line.pulled_boxes" s_Line_pulled_boxes a_Line_pulled_boxes d_Line_pulled_boxes
  b_Line_pulled_boxes : Binds K d_Line_pulled_boxes ["self"] []
  a_Line_pulled_number : Addr
  d_Line_pulled_number : FuncData
  F_Line_pulled_number : Fun K "pulled_number" "Line.pulled_number" s_Line_pulled_number a_Line_pulled_number d_Line_pulled_number
  b_Line_pulled_number : Binds K d_Line_pulled_number ["self"] []
  a_Line_pulled_rows : Addr
  d_Line_pulled_rows : FuncData
  F_Line_pulled_rows : Fun K "pulled_rows" "Line.pulled_rows" s_Line_pulled_rows a_Line_pulled_rows d_Line_pulled_rows
  b_Line_pulled_rows : Binds K d_Line_pulled_rows ["self"] []
  a_Line_pulled_row : Addr
  d_Line_pulled_row : FuncData
  F_Line_pulled_row : Fun K "pulled_row" "Line.pulled_row" s_Line_pulled_row a_Line_pulled_row d_Line_pulled_row
  b_Line_pulled_row : Binds K d_Line_pulled_row ["self"] []
  a_Line_pulled_word : Addr
  d_Line_pulled_word : FuncData
  F_Line_pulled_word : Fun K "pulled_word" "Line.pulled_word" s_Line_pulled_word a_Line_pulled_word d_Line_pulled_word
  b_Line_pulled_word : Binds K d_Line_pulled_word ["self"] []
  a_Line_pulled_def : Addr
  d_Line_pulled_def : FuncData
  F_Line_pulled_def : Fun K "pulled_def" "Line.pulled_def" s_Line_pulled_def a_Line_pulled_def d_Line_pulled_def
  b_Line_pulled_def : Binds K d_Line_pulled_def ["self"] []
  a_Line_pulled_main : Addr
  d_Line_pulled_main : FuncData
  F_Line_pulled_main : Fun K "pulled_main" "Line.pulled_main" s_Line_pulled_main a_Line_pulled_main d_Line_pulled_main
  b_Line_pulled_main : Binds K d_Line_pulled_main ["self"] []
  a_read_lines : Addr
  d_read_lines : FuncData
  F_read_lines : Fun K "read_lines" "read_lines" s_read_lines a_read_lines d_read_lines
  b_read_lines : Binds K d_read_lines ["lines"] []
  g_read_lines : mg "read_lines" = some (.ref a_read_lines)
  a_read_program : Addr
  d_read_program : FuncData
  F_read_program : Fun K "read_program" "read_program" s_read_program a_read_program d_read_program
  b_read_program : Binds K d_read_program ["text"] []
  g_read_program : mg "read_program" = some (.ref a_read_program)
  a__law_deck : Addr
  d__law_deck : FuncData
  F__law_deck : Fun K "_law_deck" "_law_deck" s__law_deck a__law_deck d__law_deck
  b__law_deck : Binds K d__law_deck ["_law_script", "_law_k"] []
  g__law_deck : mg "_law_deck" = some (.ref a__law_deck)
  a__law_draw : Addr
  d__law_draw : FuncData
  F__law_draw : Fun K "_law_draw" "_law_draw" s__law_draw a__law_draw d__law_draw
  b__law_draw : Binds K d__law_draw ["_law_deck_here", "_law_many"] []
  g__law_draw : mg "_law_draw" = some (.ref a__law_draw)
  a__law_names : Addr
  d__law_names : FuncData
  F__law_names : Fun K "_law_names" "_law_names" s__law_names a__law_names d__law_names
  b__law_names : Binds K d__law_names ["_law_deck_here", "_law_many"] []
  g__law_names : mg "_law_names" = some (.ref a__law_names)
  a__law_kit : Addr
  d__law_kit : FuncData
  F__law_kit : Fun K "_law_kit" "_law_kit" s__law_kit a__law_kit d__law_kit
  b__law_kit : Binds K d__law_kit ["_law_deck_here"] []
  g__law_kit : mg "_law_kit" = some (.ref a__law_kit)
  a__law_some : Addr
  d__law_some : FuncData
  F__law_some : Fun K "_law_some" "_law_some" s__law_some a__law_some d__law_some
  b__law_some : Binds K d__law_some ["_law_kit_here", "_law_things"] []
  g__law_some : mg "_law_some" = some (.ref a__law_some)
  a__law_unlike : Addr
  d__law_unlike : FuncData
  F__law_unlike : Fun K "_law_unlike" "_law_unlike" s__law_unlike a__law_unlike d__law_unlike
  b__law_unlike : Binds K d__law_unlike ["_law_kit_here", "_law_many"] []
  g__law_unlike : mg "_law_unlike" = some (.ref a__law_unlike)
  a__law_row : Addr
  d__law_row : FuncData
  F__law_row : Fun K "_law_row" "_law_row" s__law_row a__law_row d__law_row
  b__law_row : Binds K d__law_row ["_law_kit_here", "_law_deep", "_law_many", "_law_loops"] []
  g__law_row : mg "_law_row" = some (.ref a__law_row)
  a__law_word : Addr
  d__law_word : FuncData
  F__law_word : Fun K "_law_word" "_law_word" s__law_word a__law_word d__law_word
  b__law_word : Binds K d__law_word ["_law_kit_here", "_law_deep", "_law_loops", "_law_way"] []
  g__law_word : mg "_law_word" = some (.ref a__law_word)
  a__law_program : Addr
  d__law_program : FuncData
  F__law_program : Fun K "_law_program" "_law_program" s__law_program a__law_program d__law_program
  b__law_program : Binds K d__law_program ["_law_kit_here", "_law_most"] []
  g__law_program : mg "_law_program" = some (.ref a__law_program)
  a__law_in_brackets : Addr
  d__law_in_brackets : FuncData
  F__law_in_brackets : Fun K "_law_in_brackets" "_law_in_brackets" s__law_in_brackets a__law_in_brackets d__law_in_brackets
  b__law_in_brackets : Binds K d__law_in_brackets ["_law_boxes"] []
  g__law_in_brackets : mg "_law_in_brackets" = some (.ref a__law_in_brackets)
  a__law_braced : Addr
  d__law_braced : FuncData
  F__law_braced : Fun K "_law_braced" "_law_braced" s__law_braced a__law_braced d__law_braced
  b__law_braced : Binds K d__law_braced ["_law_rows"] []
  g__law_braced : mg "_law_braced" = some (.ref a__law_braced)
  a__law_text : Addr
  d__law_text : FuncData
  F__law_text : Fun K "_law_text" "_law_text" s__law_text a__law_text d__law_text
  b__law_text : Binds K d__law_text ["_law_row_here"] []
  g__law_text : mg "_law_text" = some (.ref a__law_text)
  a__law_plain : Addr
  d__law_plain : FuncData
  F__law_plain : Fun K "_law_plain" "_law_plain" s__law_plain a__law_plain d__law_plain
  b__law_plain : Binds K d__law_plain ["_law_thing"] []
  g__law_plain : mg "_law_plain" = some (.ref a__law_plain)
  a__law_right : Addr
  d__law_right : FuncData
  F__law_right : Fun K "_law_right" "_law_right" s__law_right a__law_right d__law_right
  b__law_right : Binds K d__law_right ["_law_program_here"] []
  g__law_right : mg "_law_right" = some (.ref a__law_right)
  a_law : Addr
  d_law : FuncData
  F_law : Fun K "law" "law" s_law a_law d_law
  b_law : Binds K d_law ["_law_script"] []
  g_law : mg "law" = some (.ref a_law)
  z_all : mg "all" = none
  z_bool : mg "bool" = none
  z_enumerate : mg "enumerate" = none
  z_int : mg "int" = none
  z_isinstance : mg "isinstance" = none
  z_len : mg "len" = none
  z_list : mg "list" = none
  z_max : mg "max" = none
  z_min : mg "min" = none
  z_range : mg "range" = none
  z_set : mg "set" = none
  z_str : mg "str" = none
  z_tuple : mg "tuple" = none
  u_DEEPEST : Value
  x_DEEPEST : V
  g_DEEPEST : mg "DEEPEST" = some u_DEEPEST
  v_DEEPEST : RelV x_DEEPEST u_DEEPEST
  r_DEEPEST : ∀ H, Rp K H x_DEEPEST c_DEEPEST
  u_FIGURES : Value
  x_FIGURES : V
  g_FIGURES : mg "FIGURES" = some u_FIGURES
  v_FIGURES : RelV x_FIGURES u_FIGURES
  r_FIGURES : ∀ H, Rp K H x_FIGURES c_FIGURES
  u_GREATEST : Value
  x_GREATEST : V
  g_GREATEST : mg "GREATEST" = some u_GREATEST
  v_GREATEST : RelV x_GREATEST u_GREATEST
  r_GREATEST : ∀ H, Rp K H x_GREATEST c_GREATEST
  u_LETTERS : Value
  x_LETTERS : V
  g_LETTERS : mg "LETTERS" = some u_LETTERS
  v_LETTERS : RelV x_LETTERS u_LETTERS
  r_LETTERS : ∀ H, Rp K H x_LETTERS c_LETTERS
  u_LONGEST : Value
  x_LONGEST : V
  g_LONGEST : mg "LONGEST" = some u_LONGEST
  v_LONGEST : RelV x_LONGEST u_LONGEST
  r_LONGEST : ∀ H, Rp K H x_LONGEST c_LONGEST
  u_MOST_BOXES : Value
  x_MOST_BOXES : V
  g_MOST_BOXES : mg "MOST_BOXES" = some u_MOST_BOXES
  v_MOST_BOXES : RelV x_MOST_BOXES u_MOST_BOXES
  r_MOST_BOXES : ∀ H, Rp K H x_MOST_BOXES c_MOST_BOXES
  u_MOST_DEFS : Value
  x_MOST_DEFS : V
  g_MOST_DEFS : mg "MOST_DEFS" = some u_MOST_DEFS
  v_MOST_DEFS : RelV x_MOST_DEFS u_MOST_DEFS
  r_MOST_DEFS : ∀ H, Rp K H x_MOST_DEFS c_MOST_DEFS
  u_MOST_FIGURES : Value
  x_MOST_FIGURES : V
  g_MOST_FIGURES : mg "MOST_FIGURES" = some u_MOST_FIGURES
  v_MOST_FIGURES : RelV x_MOST_FIGURES u_MOST_FIGURES
  r_MOST_FIGURES : ∀ H, Rp K H x_MOST_FIGURES c_MOST_FIGURES
  u_MOST_ROWS : Value
  x_MOST_ROWS : V
  g_MOST_ROWS : mg "MOST_ROWS" = some u_MOST_ROWS
  v_MOST_ROWS : RelV x_MOST_ROWS u_MOST_ROWS
  r_MOST_ROWS : ∀ H, Rp K H x_MOST_ROWS c_MOST_ROWS
  u_TONGUE : Value
  x_TONGUE : V
  g_TONGUE : mg "TONGUE" = some u_TONGUE
  v_TONGUE : RelV x_TONGUE u_TONGUE
  r_TONGUE : ∀ H, Rp K H x_TONGUE c_TONGUE
  u_MANY_BOXES : Addr
  g_MANY_BOXES : mg "MANY_BOXES" = some (.ref u_MANY_BOXES)
  k_MANY_BOXES : KDv w K u_MANY_BOXES v_MANY_BOXES
  C_Line : Addr
  cl_Line : clsA K "Line" = some C_Line
  ck_Line : Cls K C_Line
  g_Line : mg "Line" = some (.ref C_Line)
  mk_Line : Mk K C_Line a_Line___init__
  me_Line_group_ahead : Meth K C_Line "group_ahead" a_Line_group_ahead
  me_Line_pulled : Meth K C_Line "pulled" a_Line_pulled
  me_Line_expect : Meth K C_Line "expect" a_Line_expect
  me_Line_pulled_boxes : Meth K C_Line "pulled_boxes" a_Line_pulled_boxes
  me_Line_pulled_number : Meth K C_Line "pulled_number" a_Line_pulled_number
  me_Line_pulled_rows : Meth K C_Line "pulled_rows" a_Line_pulled_rows
  me_Line_pulled_row : Meth K C_Line "pulled_row" a_Line_pulled_row
  me_Line_pulled_word : Meth K C_Line "pulled_word" a_Line_pulled_word
  me_Line_pulled_def : Meth K C_Line "pulled_def" a_Line_pulled_def
  me_Line_pulled_main : Meth K C_Line "pulled_main" a_Line_pulled_main
  na_Line_braces : NoAttr K C_Line "braces"
  na_Line_groups : NoAttr K C_Line "groups"
  na_Line_reached : NoAttr K C_Line "reached"
section
variable {P : Program} {w : World} {K : Frag} {mg : Str → Option Value} {base : Heap}
theorem ok_is_name (T : Tx w K mg) : FnOk P w K mg base CX0 1 T.a_is_name T.d_is_name ["thing"] (spF K 1 f_is_name) := by
  have sc := sc_is_name
  refine fn_J T.F_is_name sc rfl rfl (by decide) fun cdv A outer s H E hr => ?_
  exact (jss_cons (js_if (PW.pt (jw_or (jt_not (jt_val (je_isi (T := "str") (T' := "str") (je_var (i := 0) rfl (by first | exact Or.inl rfl | exact Or.inr (Or.inl rfl) | exact Or.inr (Or.inr rfl))) (by rfl) T.z_isinstance (by rfl) T.z_str (by decide +kernel)))) (jw_or (jt_not (jt_chain op_leA op_leA ob_ord os_ord je_int (je_callB call_lenA cs_len (by rfl) T.z_len (by decide +kernel) (ja_c (jc_sh (je_var (i := 0) rfl (by first | exact Or.inl rfl | exact Or.inr (Or.inl rfl) | exact Or.inr (Or.inr rfl)))) ja_nil)) (je_glob (by rfl) T.g_LONGEST T.v_LONGEST T.r_LONGEST))) (jw_or1 (jt_cmp op_inA os_in (je_var (i := 0) rfl (by first | exact Or.inl rfl | exact Or.inr (Or.inl rfl) | exact Or.inr (Or.inr rfl))) (je_glob (by rfl) T.g_TONGUE T.v_TONGUE T.r_TONGUE) (by rfl))))))
    (jss_one (js_ret (jc_sh je_bl)))
    jss_nil)
    (jss_one (js_ret (jc_sh (je_callB (cr_all rfl) (cs_bools (f := fun bs => bs.all id)) (by rfl) T.z_all (by decide +kernel) (ja_c (jc_sh (je_fr (jo_comp (own := [("sign", 1)]) (by decide) rfl sc.nd (ji_any (je_var (i := 0) rfl (by first | exact Or.inl rfl | exact Or.inr (Or.inl rfl) | exact Or.inr (Or.inr rfl)))) (blkOk_by (N := N_is_name) (sc := defScope s_is_name) (by decide +kernel)) (fun _ _ _ _ _ => (jg_name (i := 1) sc.nd rfl (by first | exact Or.inl rfl | exact Or.inr rfl))) (fun _ _ _ _ _ => jts_nil) (fun _ _ _ _ _ => (je_cmp op_inA os_in (je_var (i := 1) rfl (by first | exact Or.inl rfl | exact Or.inr (Or.inl rfl) | exact Or.inr (Or.inr rfl))) (je_glob (by rfl) T.g_LETTERS T.v_LETTERS T.r_LETTERS) (by rfl)))))) ja_nil))))))
theorem ok_is_box (T : Tx w K mg) : FnOk P w K mg base CX0 2 T.a_is_box T.d_is_box ["thing"] (spF K 1 f_is_box) := by
  have sc := sc_is_box
  refine fn_J T.F_is_box sc rfl rfl (by decide) fun cdv A outer s H E hr => ?_
  exact (jss_cons (js_if (jt_not (jt_val (je_isi (T := "str") (T' := "str") (je_var (i := 0) rfl (by first | exact Or.inl rfl | exact Or.inr (Or.inl rfl) | exact Or.inr (Or.inr rfl))) (by rfl) T.z_isinstance (by rfl) T.z_str (by decide +kernel))))
    (jss_one (js_ret (jc_sh je_bl)))
    jss_nil)
    (jss_cons (js_set (i := 1) sc.nd rfl (by first | exact Or.inl rfl | exact Or.inr rfl) (jc_sh (je_m1 PySem.F.slot_str_split PySem.F.type_str_split mt_split ms_split (je_var (i := 0) rfl (by first | exact Or.inl rfl | exact Or.inr (Or.inl rfl) | exact Or.inr (Or.inr rfl))) je_str)))
    (jss_one (js_ret (jc_sh (je_and (je_cmp op_leA os_ord (je_callB call_lenA cs_len (by rfl) T.z_len (by decide +kernel) (ja_c (jc_sh (je_var (i := 1) rfl (by first | exact Or.inl rfl | exact Or.inr (Or.inl rfl) | exact Or.inr (Or.inr rfl)))) ja_nil)) je_int (nomark _)) (je_one (je_callB (cr_all rfl) (cs_bools (f := fun bs => bs.all id)) (by rfl) T.z_all (by decide +kernel) (ja_c (jc_sh (je_fr (jo_comp (own := [("part", 2)]) (by decide) rfl sc.nd (ji_any (je_var (i := 1) rfl (by first | exact Or.inl rfl | exact Or.inr (Or.inl rfl) | exact Or.inr (Or.inr rfl)))) (blkOk_by (N := N_is_box) (sc := defScope s_is_box) (by decide +kernel)) (fun _ _ _ _ _ => (jg_name (i := 2) sc.nd rfl (by first | exact Or.inl rfl | exact Or.inr rfl))) (fun _ _ _ _ _ => jts_nil) (fun _ _ _ _ _ => (je_cell (jc_call (ok_is_name T) rfl (hr.mono (by decide)) (by rfl) T.g_is_name T.F_is_name.kp T.b_is_name (ja_c (jc_sh (je_var (i := 2) rfl (by first | exact Or.inl rfl | exact Or.inr (Or.inl rfl) | exact Or.inr (Or.inr rfl)))) ja_nil))))))) ja_nil)))))))))
theorem ok_is_whole (T : Tx w K mg) : FnOk P w K mg base CX0 1 T.a_is_whole T.d_is_whole ["thing", "least", "most"] (spF K 3 f_is_whole) := by
  have sc := sc_is_whole
  refine fn_J T.F_is_whole sc rfl rfl (by decide) fun cdv A outer s H E hr => ?_
  exact (jss_one (js_ret (jc_sh (je_and (je_isi (T := "int") (T' := "int") (je_var (i := 0) rfl (by first | exact Or.inl rfl | exact Or.inr (Or.inl rfl) | exact Or.inr (Or.inr rfl))) (by rfl) T.z_isinstance (by rfl) T.z_int (by decide +kernel)) (je_and (je_not (je_isi (T := "bool") (T' := "bool") (je_var (i := 0) rfl (by first | exact Or.inl rfl | exact Or.inr (Or.inl rfl) | exact Or.inr (Or.inr rfl))) (by rfl) T.z_isinstance (by rfl) T.z_bool (by decide +kernel))) (je_one (je_chain op_leA op_leA ob_ord os_ord (je_var (i := 1) rfl (by first | exact Or.inl rfl | exact Or.inr (Or.inl rfl) | exact Or.inr (Or.inr rfl))) (je_var (i := 0) rfl (by first | exact Or.inl rfl | exact Or.inr (Or.inl rfl) | exact Or.inr (Or.inr rfl))) (je_var (i := 2) rfl (by first | exact Or.inl rfl | exact Or.inr (Or.inl rfl) | exact Or.inr (Or.inr rfl))))))))))
theorem ok_are_boxes (T : Tx w K mg) : FnOk P w K mg base CX0 3 T.a_are_boxes T.d_are_boxes ["thing"] (spF K 1 f_are_boxes) := by
  have sc := sc_are_boxes
  refine fn_J T.F_are_boxes sc rfl rfl (by decide) fun cdv A outer s H E hr => ?_
  exact (jss_cons (js_if (PW.pt (jw_or (jt_not (jt_val (je_isi (T := "tuple") (T' := "tuple") (je_var (i := 0) rfl (by first | exact Or.inl rfl | exact Or.inr (Or.inl rfl) | exact Or.inr (Or.inr rfl))) (by rfl) T.z_isinstance (by rfl) T.z_tuple (by decide +kernel)))) (jw_or1 (jt_not (jt_val (je_callB (cr_all rfl) (cs_bools (f := fun bs => bs.all id)) (by rfl) T.z_all (by decide +kernel) (ja_c (jc_sh (je_fr (jo_comp (own := [("one", 1)]) (by decide) rfl sc.nd (ji_any (je_var (i := 0) rfl (by first | exact Or.inl rfl | exact Or.inr (Or.inl rfl) | exact Or.inr (Or.inr rfl)))) (blkOk_by (N := N_are_boxes) (sc := defScope s_are_boxes) (by decide +kernel)) (fun _ _ _ _ _ => (jg_name (i := 1) sc.nd rfl (by first | exact Or.inl rfl | exact Or.inr rfl))) (fun _ _ _ _ _ => jts_nil) (fun _ _ _ _ _ => (je_cell (jc_call (ok_is_box T) rfl (hr.mono (by decide)) (by rfl) T.g_is_box T.F_is_box.kp T.b_is_box (ja_c (jc_sh (je_var (i := 1) rfl (by first | exact Or.inl rfl | exact Or.inr (Or.inl rfl) | exact Or.inr (Or.inr rfl)))) ja_nil))))))) ja_nil)))))))
    (jss_one (js_ret (jc_sh je_bl)))
    jss_nil)
    (jss_one (js_ret (jc_sh (je_cmp (op_eqA hr.units) os_eq (je_lenSet rfl (by rfl) T.z_len (by decide +kernel) (by rfl) T.z_set (by decide +kernel) (jc_sh (je_var (i := 0) rfl (by first | exact Or.inl rfl | exact Or.inr (Or.inl rfl) | exact Or.inr (Or.inr rfl))))) (je_callB call_lenA cs_len (by rfl) T.z_len (by decide +kernel) (ja_c (jc_sh (je_var (i := 0) rfl (by first | exact Or.inl rfl | exact Or.inr (Or.inl rfl) | exact Or.inr (Or.inr rfl)))) ja_nil)) (nomark _))))))
theorem ok_is_calling (T : Tx w K mg) : FnOk P w K mg base CX0 4 T.a_is_calling T.d_is_calling ["rest", "known"] (spF K 2 f_is_calling) := by
  have sc := sc_is_calling
  refine fn_J T.F_is_calling sc rfl rfl (by decide) fun cdv A outer s H E hr => ?_
  exact (jss_cons (js_if (PW.pt (jw_or (jt_cmp (op_neA hr.units) os_ne (je_callB call_lenA cs_len (by rfl) T.z_len (by decide +kernel) (ja_c (jc_sh (je_var (i := 0) rfl (by first | exact Or.inl rfl | exact Or.inr (Or.inl rfl) | exact Or.inr (Or.inr rfl)))) ja_nil)) je_int (nomark _)) (jw_or (jt_not (jt_val (je_isi (T := "str") (T' := "str") (je_ix (je_var (i := 0) rfl (by first | exact Or.inl rfl | exact Or.inr (Or.inl rfl) | exact Or.inr (Or.inr rfl))) je_int (fun _ _ => rfl)) (by rfl) T.z_isinstance (by rfl) T.z_str (by decide +kernel)))) (jw_or1 (jt_dnotin hr.units (je_ix (je_var (i := 0) rfl (by first | exact Or.inl rfl | exact Or.inr (Or.inl rfl) | exact Or.inr (Or.inr rfl))) je_int (fun _ _ => rfl)) (jl_var (i := 1) rfl (by first | exact Or.inl rfl | exact Or.inr (Or.inl rfl) | exact Or.inr (Or.inr rfl))) (by rfl))))))
    (jss_one (js_ret (jc_sh je_bl)))
    jss_nil)
    (jss_cons (js_if (PW.pt (jw_or (jt_not (jt_val (je_cell (jc_call (ok_are_boxes T) rfl (hr.mono (by decide)) (by rfl) T.g_are_boxes T.F_are_boxes.kp T.b_are_boxes (ja_c (jc_sh (je_ix (je_var (i := 0) rfl (by first | exact Or.inl rfl | exact Or.inr (Or.inl rfl) | exact Or.inr (Or.inr rfl))) je_int (fun _ _ => rfl))) ja_nil))))) (jw_or1 (jt_not (jt_val (je_cell (jc_call (ok_are_boxes T) rfl (hr.mono (by decide)) (by rfl) T.g_are_boxes T.F_are_boxes.kp T.b_are_boxes (ja_c (jc_sh (je_ix (je_var (i := 0) rfl (by first | exact Or.inl rfl | exact Or.inr (Or.inl rfl) | exact Or.inr (Or.inr rfl))) je_int (fun _ _ => rfl))) ja_nil))))))))
    (jss_one (js_ret (jc_sh je_bl)))
    jss_nil)
    (jss_one (js_ret (jc_sh (je_cmp (op_eqA hr.units) os_eq (je_tup (ja_c (jc_sh (je_callB call_lenA cs_len (by rfl) T.z_len (by decide +kernel) (ja_c (jc_sh (je_ix (je_var (i := 0) rfl (by first | exact Or.inl rfl | exact Or.inr (Or.inl rfl) | exact Or.inr (Or.inr rfl))) je_int (fun _ _ => rfl))) ja_nil))) (ja_c (jc_sh (je_callB call_lenA cs_len (by rfl) T.z_len (by decide +kernel) (ja_c (jc_sh (je_ix (je_var (i := 0) rfl (by first | exact Or.inl rfl | exact Or.inr (Or.inl rfl) | exact Or.inr (Or.inr rfl))) je_int (fun _ _ => rfl))) ja_nil))) ja_nil))) (je_cell (jc_dget hr.units (jl_var (i := 1) rfl (by first | exact Or.inl rfl | exact Or.inr (Or.inl rfl) | exact Or.inr (Or.inr rfl))) (je_ix (je_var (i := 0) rfl (by first | exact Or.inl rfl | exact Or.inr (Or.inl rfl) | exact Or.inr (Or.inr rfl))) je_int (fun _ _ => rfl)) (fun _ _ => rfl))) (nomark _)))))))
theorem ok_is_plain (T : Tx w K mg) : FnOk P w K mg base CX0 4 T.a_is_plain T.d_is_plain ["word", "rest"] (spF K 2 f_is_plain) := by
  have sc := sc_is_plain
  refine fn_J T.F_is_plain sc rfl rfl (by decide) fun cdv A outer s H E hr => ?_
  exact (jss_cons (js_if (jt_kin (je_var (i := 0) rfl (by first | exact Or.inl rfl | exact Or.inr (Or.inl rfl) | exact Or.inr (Or.inr rfl))) (by rfl) T.g_MANY_BOXES (ks := k_MANY_BOXES) T.k_MANY_BOXES.kd)
    (jss_one (js_ret (jc_sh (je_and (je_cmp (op_eqA hr.units) os_eq (je_callB call_lenA cs_len (by rfl) T.z_len (by decide +kernel) (ja_c (jc_sh (je_var (i := 1) rfl (by first | exact Or.inl rfl | exact Or.inr (Or.inl rfl) | exact Or.inr (Or.inr rfl)))) ja_nil)) (je_kget (je_var (i := 0) rfl (by first | exact Or.inl rfl | exact Or.inr (Or.inl rfl) | exact Or.inr (Or.inr rfl))) (by rfl) T.g_MANY_BOXES T.k_MANY_BOXES (fun _ _ => rfl)) (nomark _)) (je_one (je_callB (cr_all rfl) (cs_bools (f := fun bs => bs.all id)) (by rfl) T.z_all (by decide +kernel) (ja_c (jc_sh (je_fr (jo_comp (own := [("one", 2)]) (by decide) rfl sc.nd (ji_any (je_var (i := 1) rfl (by first | exact Or.inl rfl | exact Or.inr (Or.inl rfl) | exact Or.inr (Or.inr rfl)))) (blkOk_by (N := N_is_plain) (sc := defScope s_is_plain) (by decide +kernel)) (fun _ _ _ _ _ => (jg_name (i := 2) sc.nd rfl (by first | exact Or.inl rfl | exact Or.inr rfl))) (fun _ _ _ _ _ => jts_nil) (fun _ _ _ _ _ => (je_cell (jc_call (ok_is_box T) rfl (hr.mono (by decide)) (by rfl) T.g_is_box T.F_is_box.kp T.b_is_box (ja_c (jc_sh (je_var (i := 2) rfl (by first | exact Or.inl rfl | exact Or.inr (Or.inl rfl) | exact Or.inr (Or.inr rfl)))) ja_nil))))))) ja_nil)))))))
    jss_nil)
    (jss_cons (js_if (jt_cmp (op_eqA hr.units) os_eq (je_var (i := 0) rfl (by first | exact Or.inl rfl | exact Or.inr (Or.inl rfl) | exact Or.inr (Or.inr rfl))) je_str (nomark _))
    (jss_one (js_ret (jc_sh (je_cmp (op_eqA hr.units) os_eq (je_var (i := 1) rfl (by first | exact Or.inl rfl | exact Or.inr (Or.inl rfl) | exact Or.inr (Or.inr rfl))) (je_tup ja_nil) (nomark _)))))
    jss_nil)
    (jss_cons (js_if (jt_cmp (op_eqA hr.units) os_eq (je_var (i := 0) rfl (by first | exact Or.inl rfl | exact Or.inr (Or.inl rfl) | exact Or.inr (Or.inr rfl))) je_str (nomark _))
    (jss_one (js_ret (jc_sh (je_and (je_cmp (op_eqA hr.units) os_eq (je_callB call_lenA cs_len (by rfl) T.z_len (by decide +kernel) (ja_c (jc_sh (je_var (i := 1) rfl (by first | exact Or.inl rfl | exact Or.inr (Or.inl rfl) | exact Or.inr (Or.inr rfl)))) ja_nil)) je_int (nomark _)) (je_and (je_cell (jc_call (ok_is_box T) rfl (hr.mono (by decide)) (by rfl) T.g_is_box T.F_is_box.kp T.b_is_box (ja_c (jc_sh (je_ix (je_var (i := 1) rfl (by first | exact Or.inl rfl | exact Or.inr (Or.inl rfl) | exact Or.inr (Or.inr rfl))) je_int (fun _ _ => rfl))) ja_nil))) (je_one (je_cell (jc_call (ok_is_name T) rfl (hr.mono (by decide)) (by rfl) T.g_is_name T.F_is_name.kp T.b_is_name (ja_c (jc_sh (je_ix (je_var (i := 1) rfl (by first | exact Or.inl rfl | exact Or.inr (Or.inl rfl) | exact Or.inr (Or.inr rfl))) je_int (fun _ _ => rfl))) ja_nil)))))))))
    jss_nil)
    (jss_cons (js_if (jt_cmp (op_eqA hr.units) os_eq (je_var (i := 0) rfl (by first | exact Or.inl rfl | exact Or.inr (Or.inl rfl) | exact Or.inr (Or.inr rfl))) je_str (nomark _))
    (jss_one (js_ret (jc_sh (je_and (je_cmp (op_eqA hr.units) os_eq (je_callB call_lenA cs_len (by rfl) T.z_len (by decide +kernel) (ja_c (jc_sh (je_var (i := 1) rfl (by first | exact Or.inl rfl | exact Or.inr (Or.inl rfl) | exact Or.inr (Or.inr rfl)))) ja_nil)) je_int (nomark _)) (je_and (je_cell (jc_call (ok_is_box T) rfl (hr.mono (by decide)) (by rfl) T.g_is_box T.F_is_box.kp T.b_is_box (ja_c (jc_sh (je_ix (je_var (i := 1) rfl (by first | exact Or.inl rfl | exact Or.inr (Or.inl rfl) | exact Or.inr (Or.inr rfl))) je_int (fun _ _ => rfl))) ja_nil))) (je_one (je_cell (jc_call (ok_is_whole T) rfl (hr.mono (by decide)) (by rfl) T.g_is_whole T.F_is_whole.kp T.b_is_whole (ja_c (jc_sh (je_ix (je_var (i := 1) rfl (by first | exact Or.inl rfl | exact Or.inr (Or.inl rfl) | exact Or.inr (Or.inr rfl))) je_int (fun _ _ => rfl))) (ja_c (jc_sh je_int) (ja_c (jc_sh (je_glob (by rfl) T.g_GREATEST T.v_GREATEST T.r_GREATEST)) ja_nil)))))))))))
    jss_nil)
    (jss_cons (js_if (jt_cmp op_inA os_in (je_var (i := 0) rfl (by first | exact Or.inl rfl | exact Or.inr (Or.inl rfl) | exact Or.inr (Or.inr rfl))) (je_tup (ja_c (jc_sh je_str) (ja_c (jc_sh je_str) (ja_c (jc_sh je_str) ja_nil)))) (by rfl))
    (jss_one (js_ret (jc_sh (je_and (je_cmp (op_eqA hr.units) os_eq (je_callB call_lenA cs_len (by rfl) T.z_len (by decide +kernel) (ja_c (jc_sh (je_var (i := 1) rfl (by first | exact Or.inl rfl | exact Or.inr (Or.inl rfl) | exact Or.inr (Or.inr rfl)))) ja_nil)) je_int (nomark _)) (je_one (je_cell (jc_call (ok_is_name T) rfl (hr.mono (by decide)) (by rfl) T.g_is_name T.F_is_name.kp T.b_is_name (ja_c (jc_sh (je_ix (je_var (i := 1) rfl (by first | exact Or.inl rfl | exact Or.inr (Or.inl rfl) | exact Or.inr (Or.inr rfl))) je_int (fun _ _ => rfl))) ja_nil))))))))
    jss_nil)
    (jss_one (js_ret (jc_sh (je_and (je_cmp (op_eqA hr.units) os_eq (je_var (i := 0) rfl (by first | exact Or.inl rfl | exact Or.inr (Or.inl rfl) | exact Or.inr (Or.inr rfl))) je_str (nomark _)) (je_and (je_cmp (op_eqA hr.units) os_eq (je_callB call_lenA cs_len (by rfl) T.z_len (by decide +kernel) (ja_c (jc_sh (je_var (i := 1) rfl (by first | exact Or.inl rfl | exact Or.inr (Or.inl rfl) | exact Or.inr (Or.inr rfl)))) ja_nil)) je_int (nomark _)) (je_and (je_cell (jc_call (ok_are_boxes T) rfl (hr.mono (by decide)) (by rfl) T.g_are_boxes T.F_are_boxes.kp T.b_are_boxes (ja_c (jc_sh (je_ix (je_var (i := 1) rfl (by first | exact Or.inl rfl | exact Or.inr (Or.inl rfl) | exact Or.inr (Or.inr rfl))) je_int (fun _ _ => rfl))) ja_nil))) (je_one (je_cmp (op_neA hr.units) os_ne (je_ix (je_var (i := 1) rfl (by first | exact Or.inl rfl | exact Or.inr (Or.inl rfl) | exact Or.inr (Or.inr rfl))) je_int (fun _ _ => rfl)) (je_tup ja_nil) (nomark _))))))))))))))
theorem ok_G6 (T : Tx w K mg) : ∀ k : Nat, FnOk P w K mg base CX0 (4 + k) T.a_is_word T.d_is_word ["thing", "known", "around"] (spF K 3 (f_G6 k 0)) ∧ FnOk P w K mg base CX0 (4 + k) T.a_is_row T.d_is_row ["thing", "known", "around"] (spF K 3 (f_G6 k 1))
  | 0 => ⟨fn_bad rfl, fn_bad rfl⟩
  | k + 1 => by
    have ih := ok_G6 T k
    exact ⟨(by
      have sc := sc_is_word
      refine fn_J T.F_is_word sc rfl rfl (by decide) fun cdv A outer s H E hr => ?_
      exact (jss_cons (js_if (PW.pt (jw_or (jt_not (jt_val (je_isi (T := "tuple") (T' := "tuple") (je_var (i := 0) rfl (by first | exact Or.inl rfl | exact Or.inr (Or.inl rfl) | exact Or.inr (Or.inr rfl))) (by rfl) T.z_isinstance (by rfl) T.z_tuple (by decide +kernel)))) (jw_or (jt_cmp (op_eqA hr.units) os_eq (je_var (i := 0) rfl (by first | exact Or.inl rfl | exact Or.inr (Or.inl rfl) | exact Or.inr (Or.inr rfl))) (je_tup ja_nil) (nomark _)) (jw_or1 (jt_not (jt_val (je_isi (T := "str") (T' := "str") (je_ix (je_var (i := 0) rfl (by first | exact Or.inl rfl | exact Or.inr (Or.inl rfl) | exact Or.inr (Or.inr rfl))) je_int (fun _ _ => rfl)) (by rfl) T.z_isinstance (by rfl) T.z_str (by decide +kernel))))))))
    (jss_one (js_ret (jc_sh je_bl)))
    jss_nil)
    (jss_cons (js_set (i := 3) sc.nd rfl (by first | exact Or.inl rfl | exact Or.inr rfl) (jc_sh (je_ix (je_var (i := 0) rfl (by first | exact Or.inl rfl | exact Or.inr (Or.inl rfl) | exact Or.inr (Or.inr rfl))) je_int (fun _ _ => rfl))))
    (jss_cons (js_set (i := 4) sc.nd rfl (by first | exact Or.inl rfl | exact Or.inr rfl) (jc_sh (je_slice (je_var (i := 0) rfl (by first | exact Or.inl rfl | exact Or.inr (Or.inl rfl) | exact Or.inr (Or.inr rfl))) (jp_some je_int) jp_none)))
    (jss_cons (js_if (jt_cmp (op_eqA hr.units) os_eq (je_var (i := 3) rfl (by first | exact Or.inl rfl | exact Or.inr (Or.inl rfl) | exact Or.inr (Or.inr rfl))) je_str (nomark _))
    (jss_cons (js_if (PW.pt (jw_or (jt_cmp (op_neA hr.units) os_ne (je_callB call_lenA cs_len (by rfl) T.z_len (by decide +kernel) (ja_c (jc_sh (je_var (i := 4) rfl (by first | exact Or.inl rfl | exact Or.inr (Or.inl rfl) | exact Or.inr (Or.inr rfl)))) ja_nil)) je_int (nomark _)) (jw_or (jt_not (jt_val (je_isi (T := "tuple") (T' := "tuple") (je_ix (je_var (i := 4) rfl (by first | exact Or.inl rfl | exact Or.inr (Or.inl rfl) | exact Or.inr (Or.inr rfl))) je_int (fun _ _ => rfl)) (by rfl) T.z_isinstance (by rfl) T.z_tuple (by decide +kernel)))) (jw_or1 (jt_not (jt_chain op_leA op_leA ob_ord os_ord je_int (je_callB call_lenA cs_len (by rfl) T.z_len (by decide +kernel) (ja_c (jc_sh (je_ix (je_var (i := 4) rfl (by first | exact Or.inl rfl | exact Or.inr (Or.inl rfl) | exact Or.inr (Or.inr rfl))) je_int (fun _ _ => rfl))) ja_nil)) (je_glob (by rfl) T.g_MOST_ROWS T.v_MOST_ROWS T.r_MOST_ROWS)))))))
    (jss_one (js_ret (jc_sh je_bl)))
    jss_nil)
    (jss_one (js_ret (jc_sh (je_callB (cr_all rfl) (cs_bools (f := fun bs => bs.all id)) (by rfl) T.z_all (by decide +kernel) (ja_c (jc_sh (je_fr (jo_comp (own := [("row", 5)]) (by decide) rfl sc.nd (ji_any (je_ix (je_var (i := 4) rfl (by first | exact Or.inl rfl | exact Or.inr (Or.inl rfl) | exact Or.inr (Or.inr rfl))) je_int (fun _ _ => rfl))) (blkOk_by (N := N_is_word) (sc := defScope s_is_word) (by decide +kernel)) (fun _ _ _ _ _ => (jg_name (i := 5) sc.nd rfl (by first | exact Or.inl rfl | exact Or.inr rfl))) (fun _ _ _ _ _ => jts_nil) (fun _ _ _ _ _ => (je_cell (jc_call ih.2 rfl hr (by rfl) T.g_is_row T.F_is_row.kp T.b_is_row (ja_c (jc_sh (je_var (i := 5) rfl (by first | exact Or.inl rfl | exact Or.inr (Or.inl rfl) | exact Or.inr (Or.inr rfl)))) (ja_c (jc_lo (jl_var (i := 1) rfl (by first | exact Or.inl rfl | exact Or.inr (Or.inl rfl) | exact Or.inr (Or.inr rfl)))) (ja_c (jc_sh (je_var (i := 2) rfl (by first | exact Or.inl rfl | exact Or.inr (Or.inl rfl) | exact Or.inr (Or.inr rfl)))) ja_nil))))))))) ja_nil))))))
    jss_nil)
    (jss_cons (js_if (jt_cmp (op_eqA hr.units) os_eq (je_var (i := 3) rfl (by first | exact Or.inl rfl | exact Or.inr (Or.inl rfl) | exact Or.inr (Or.inr rfl))) je_str (nomark _))
    (jss_one (js_ret (jc_sh (je_and (je_cmp (op_eqA hr.units) os_eq (je_callB call_lenA cs_len (by rfl) T.z_len (by decide +kernel) (ja_c (jc_sh (je_var (i := 4) rfl (by first | exact Or.inl rfl | exact Or.inr (Or.inl rfl) | exact Or.inr (Or.inr rfl)))) ja_nil)) je_int (nomark _)) (je_one (je_cell (jc_call ih.2 rfl hr (by rfl) T.g_is_row T.F_is_row.kp T.b_is_row (ja_c (jc_sh (je_ix (je_var (i := 4) rfl (by first | exact Or.inl rfl | exact Or.inr (Or.inl rfl) | exact Or.inr (Or.inr rfl))) je_int (fun _ _ => rfl))) (ja_c (jc_lo (jl_var (i := 1) rfl (by first | exact Or.inl rfl | exact Or.inr (Or.inl rfl) | exact Or.inr (Or.inr rfl)))) (ja_c (jc_sh (je_bin op_addA os_add (je_var (i := 2) rfl (by first | exact Or.inl rfl | exact Or.inr (Or.inl rfl) | exact Or.inr (Or.inr rfl))) je_int)) ja_nil))))))))))
    jss_nil)
    (jss_cons (js_if (jt_cmp (op_eqA hr.units) os_eq (je_var (i := 3) rfl (by first | exact Or.inl rfl | exact Or.inr (Or.inl rfl) | exact Or.inr (Or.inr rfl))) je_str (nomark _))
    (jss_one (js_ret (jc_sh (je_and (je_cmp (op_eqA hr.units) os_eq (je_callB call_lenA cs_len (by rfl) T.z_len (by decide +kernel) (ja_c (jc_sh (je_var (i := 4) rfl (by first | exact Or.inl rfl | exact Or.inr (Or.inl rfl) | exact Or.inr (Or.inr rfl)))) ja_nil)) je_int (nomark _)) (je_one (je_cell (jc_call (ok_is_whole T) rfl (hr.mono (Nat.le_trans (m := 4) (by decide) (Nat.le_add_right _ _))) (by rfl) T.g_is_whole T.F_is_whole.kp T.b_is_whole (ja_c (jc_sh (je_ix (je_var (i := 4) rfl (by first | exact Or.inl rfl | exact Or.inr (Or.inl rfl) | exact Or.inr (Or.inr rfl))) je_int (fun _ _ => rfl))) (ja_c (jc_sh je_int) (ja_c (jc_sh (je_var (i := 2) rfl (by first | exact Or.inl rfl | exact Or.inr (Or.inl rfl) | exact Or.inr (Or.inr rfl)))) ja_nil))))))))))
    jss_nil)
    (jss_cons (js_if (jt_cmp (op_eqA hr.units) os_eq (je_var (i := 3) rfl (by first | exact Or.inl rfl | exact Or.inr (Or.inl rfl) | exact Or.inr (Or.inr rfl))) je_str (nomark _))
    (jss_one (js_ret (jc_sh (je_cell (jc_call (ok_is_calling T) rfl (hr.mono (Nat.le_trans (m := 4) (by decide) (Nat.le_add_right _ _))) (by rfl) T.g_is_calling T.F_is_calling.kp T.b_is_calling (ja_c (jc_sh (je_var (i := 4) rfl (by first | exact Or.inl rfl | exact Or.inr (Or.inl rfl) | exact Or.inr (Or.inr rfl)))) (ja_c (jc_lo (jl_var (i := 1) rfl (by first | exact Or.inl rfl | exact Or.inr (Or.inl rfl) | exact Or.inr (Or.inr rfl)))) ja_nil)))))))
    jss_nil)
    (jss_one (js_ret (jc_sh (je_cell (jc_call (ok_is_plain T) rfl (hr.mono (Nat.le_trans (m := 4) (by decide) (Nat.le_add_right _ _))) (by rfl) T.g_is_plain T.F_is_plain.kp T.b_is_plain (ja_c (jc_sh (je_var (i := 3) rfl (by first | exact Or.inl rfl | exact Or.inr (Or.inl rfl) | exact Or.inr (Or.inr rfl)))) (ja_c (jc_sh (je_var (i := 4) rfl (by first | exact Or.inl rfl | exact Or.inr (Or.inl rfl) | exact Or.inr (Or.inr rfl)))) ja_nil))))))))))))))), (by
      have sc := sc_is_row
      refine fn_J T.F_is_row sc rfl rfl (by decide) fun cdv A outer s H E hr => ?_
      exact (jss_one (js_ret (jc_sh (je_and (je_isi (T := "tuple") (T' := "tuple") (je_var (i := 0) rfl (by first | exact Or.inl rfl | exact Or.inr (Or.inl rfl) | exact Or.inr (Or.inr rfl))) (by rfl) T.z_isinstance (by rfl) T.z_tuple (by decide +kernel)) (je_one (je_callB (cr_all rfl) (cs_bools (f := fun bs => bs.all id)) (by rfl) T.z_all (by decide +kernel) (ja_c (jc_sh (je_fr (jo_comp (own := [("one", 3)]) (by decide) rfl sc.nd (ji_any (je_var (i := 0) rfl (by first | exact Or.inl rfl | exact Or.inr (Or.inl rfl) | exact Or.inr (Or.inr rfl)))) (blkOk_by (N := N_is_row) (sc := defScope s_is_row) (by decide +kernel)) (fun _ _ _ _ _ => (jg_name (i := 3) sc.nd rfl (by first | exact Or.inl rfl | exact Or.inr rfl))) (fun _ _ _ _ _ => jts_nil) (fun _ _ _ _ _ => (je_cell (jc_call ih.1 rfl hr (by rfl) T.g_is_word T.F_is_word.kp T.b_is_word (ja_c (jc_sh (je_var (i := 3) rfl (by first | exact Or.inl rfl | exact Or.inr (Or.inl rfl) | exact Or.inr (Or.inr rfl)))) (ja_c (jc_lo (jl_var (i := 1) rfl (by first | exact Or.inl rfl | exact Or.inr (Or.inl rfl) | exact Or.inr (Or.inr rfl)))) (ja_c (jc_sh (je_var (i := 2) rfl (by first | exact Or.inl rfl | exact Or.inr (Or.inl rfl) | exact Or.inr (Or.inr rfl)))) ja_nil))))))))) ja_nil))))))))⟩
theorem ok_is_def (T : Tx w K mg) : FnOk P w K mg base CX0 19 T.a_is_def T.d_is_def ["thing", "known"] (spF K 2 f_is_def) := by
  have sc := sc_is_def
  refine fn_J T.F_is_def sc rfl rfl (by decide) fun cdv A outer s H E hr => ?_
  exact (jss_cons (js_if (PW.pt (jw_or (jt_not (jt_val (je_isi (T := "tuple") (T' := "tuple") (je_var (i := 0) rfl (by first | exact Or.inl rfl | exact Or.inr (Or.inl rfl) | exact Or.inr (Or.inr rfl))) (by rfl) T.z_isinstance (by rfl) T.z_tuple (by decide +kernel)))) (jw_or (jt_cmp (op_neA hr.units) os_ne (je_callB call_lenA cs_len (by rfl) T.z_len (by decide +kernel) (ja_c (jc_sh (je_var (i := 0) rfl (by first | exact Or.inl rfl | exact Or.inr (Or.inl rfl) | exact Or.inr (Or.inr rfl)))) ja_nil)) je_int (nomark _)) (jw_or (jt_not (jt_val (je_cell (jc_call (ok_is_name T) rfl (hr.mono (by decide)) (by rfl) T.g_is_name T.F_is_name.kp T.b_is_name (ja_c (jc_sh (je_ix (je_var (i := 0) rfl (by first | exact Or.inl rfl | exact Or.inr (Or.inl rfl) | exact Or.inr (Or.inr rfl))) je_int (fun _ _ => rfl))) ja_nil))))) (jw_or1 (jt_din hr.units (je_ix (je_var (i := 0) rfl (by first | exact Or.inl rfl | exact Or.inr (Or.inl rfl) | exact Or.inr (Or.inr rfl))) je_int (fun _ _ => rfl)) (jl_var (i := 1) rfl (by first | exact Or.inl rfl | exact Or.inr (Or.inl rfl) | exact Or.inr (Or.inr rfl))) (by rfl)))))))
    (jss_one (js_ret (jc_sh je_bl)))
    jss_nil)
    (jss_cons (js_if (PW.pt (jw_or (jt_not (jt_val (je_cell (jc_call (ok_are_boxes T) rfl (hr.mono (by decide)) (by rfl) T.g_are_boxes T.F_are_boxes.kp T.b_are_boxes (ja_c (jc_sh (je_ix (je_var (i := 0) rfl (by first | exact Or.inl rfl | exact Or.inr (Or.inl rfl) | exact Or.inr (Or.inr rfl))) je_int (fun _ _ => rfl))) ja_nil))))) (jw_or1 (jt_not (jt_val (je_cell (jc_call (ok_are_boxes T) rfl (hr.mono (by decide)) (by rfl) T.g_are_boxes T.F_are_boxes.kp T.b_are_boxes (ja_c (jc_sh (je_ix (je_var (i := 0) rfl (by first | exact Or.inl rfl | exact Or.inr (Or.inl rfl) | exact Or.inr (Or.inr rfl))) je_int (fun _ _ => rfl))) ja_nil))))))))
    (jss_one (js_ret (jc_sh je_bl)))
    jss_nil)
    (jss_one (js_ret (jc_sh (je_and (je_cmp op_leA os_ord (je_callB (call_max2 rfl) (cs_II (f := fun i j => if j > i then j else i)) (by rfl) T.z_max (by decide +kernel) (ja_c (jc_sh (je_callB call_lenA cs_len (by rfl) T.z_len (by decide +kernel) (ja_c (jc_sh (je_ix (je_var (i := 0) rfl (by first | exact Or.inl rfl | exact Or.inr (Or.inl rfl) | exact Or.inr (Or.inr rfl))) je_int (fun _ _ => rfl))) ja_nil))) (ja_c (jc_sh (je_callB call_lenA cs_len (by rfl) T.z_len (by decide +kernel) (ja_c (jc_sh (je_ix (je_var (i := 0) rfl (by first | exact Or.inl rfl | exact Or.inr (Or.inl rfl) | exact Or.inr (Or.inr rfl))) je_int (fun _ _ => rfl))) ja_nil))) ja_nil))) (je_glob (by rfl) T.g_MOST_BOXES T.v_MOST_BOXES T.r_MOST_BOXES) (nomark _)) (je_one (je_cell (jc_call ((ok_G6 T 14).2) rfl (hr.mono (by decide)) (by rfl) T.g_is_row T.F_is_row.kp T.b_is_row (ja_c (jc_sh (je_ix (je_var (i := 0) rfl (by first | exact Or.inl rfl | exact Or.inr (Or.inl rfl) | exact Or.inr (Or.inr rfl))) je_int (fun _ _ => rfl))) (ja_c (jc_lo (jl_var (i := 1) rfl (by first | exact Or.inl rfl | exact Or.inr (Or.inl rfl) | exact Or.inr (Or.inr rfl)))) (ja_c (jc_sh je_int) ja_nil))))))))))))
theorem ok_is_program (T : Tx w K mg) : FnOk P w K mg base CX0 20 T.a_is_program T.d_is_program ["thing"] (spF K 1 f_is_program) := by
  have sc := sc_is_program
  refine fn_J T.F_is_program sc rfl rfl (by decide) fun cdv A outer s H E hr => ?_
  exact (jss_cons (js_if (PW.pt (jw_or (jt_not (jt_val (je_isi (T := "tuple") (T' := "tuple") (je_var (i := 0) rfl (by first | exact Or.inl rfl | exact Or.inr (Or.inl rfl) | exact Or.inr (Or.inr rfl))) (by rfl) T.z_isinstance (by rfl) T.z_tuple (by decide +kernel)))) (jw_or (jt_cmp (op_neA hr.units) os_ne (je_callB call_lenA cs_len (by rfl) T.z_len (by decide +kernel) (ja_c (jc_sh (je_var (i := 0) rfl (by first | exact Or.inl rfl | exact Or.inr (Or.inl rfl) | exact Or.inr (Or.inr rfl)))) ja_nil)) je_int (nomark _)) (jw_or1 (jt_not (jt_val (je_isi (T := "tuple") (T' := "tuple") (je_ix (je_var (i := 0) rfl (by first | exact Or.inl rfl | exact Or.inr (Or.inl rfl) | exact Or.inr (Or.inr rfl))) je_int (fun _ _ => rfl)) (by rfl) T.z_isinstance (by rfl) T.z_tuple (by decide +kernel))))))))
    (jss_one (js_ret (jc_sh je_bl)))
    jss_nil)
    (jss_cons (js_if (jt_cmp op_gtA os_ord (je_callB call_lenA cs_len (by rfl) T.z_len (by decide +kernel) (ja_c (jc_sh (je_ix (je_var (i := 0) rfl (by first | exact Or.inl rfl | exact Or.inr (Or.inl rfl) | exact Or.inr (Or.inr rfl))) je_int (fun _ _ => rfl))) ja_nil)) (je_glob (by rfl) T.g_MOST_DEFS T.v_MOST_DEFS T.r_MOST_DEFS) (nomark _))
    (jss_one (js_ret (jc_sh je_bl)))
    jss_nil)
    (jss_cons (js_set (i := 1) sc.nd rfl (by first | exact Or.inl rfl | exact Or.inr rfl) (jc_lo jl_dnew))
    (jss_cons (js_for PassesOwn.never rfl (ji_any (je_ix (je_var (i := 0) rfl (by first | exact Or.inl rfl | exact Or.inr (Or.inl rfl) | exact Or.inr (Or.inr rfl))) je_int (fun _ _ => rfl))) (jg_name (i := 2) sc.nd rfl (by first | exact Or.inl rfl | exact Or.inr rfl))
    (jss_cons (js_if (jt_not (jt_val (je_cell (jc_call (ok_is_def T) rfl (hr.mono (by decide)) (by rfl) T.g_is_def T.F_is_def.kp T.b_is_def (ja_c (jc_sh (je_var (i := 2) rfl (by first | exact Or.inl rfl | exact Or.inr (Or.inl rfl) | exact Or.inr (Or.inr rfl)))) (ja_c (jc_lo (jl_var (i := 1) rfl (by first | exact Or.inl rfl | exact Or.inr (Or.inl rfl) | exact Or.inr (Or.inr rfl)))) ja_nil))))))
    (jss_one (js_ret (jc_sh je_bl)))
    jss_nil)
    (jss_one (js_dput hr.units (jl_var (i := 1) rfl (by first | exact Or.inl rfl | exact Or.inr (Or.inl rfl) | exact Or.inr (Or.inr rfl))) (je_ix (je_var (i := 2) rfl (by first | exact Or.inl rfl | exact Or.inr (Or.inl rfl) | exact Or.inr (Or.inr rfl))) je_int (fun _ _ => rfl)) (jc_sh (je_tup (ja_c (jc_sh (je_callB call_lenA cs_len (by rfl) T.z_len (by decide +kernel) (ja_c (jc_sh (je_ix (je_var (i := 2) rfl (by first | exact Or.inl rfl | exact Or.inr (Or.inl rfl) | exact Or.inr (Or.inr rfl))) je_int (fun _ _ => rfl))) ja_nil))) (ja_c (jc_sh (je_callB call_lenA cs_len (by rfl) T.z_len (by decide +kernel) (ja_c (jc_sh (je_ix (je_var (i := 2) rfl (by first | exact Or.inl rfl | exact Or.inr (Or.inl rfl) | exact Or.inr (Or.inr rfl))) je_int (fun _ _ => rfl))) ja_nil))) ja_nil))))))))
    (jss_one (js_ret (jc_sh (je_cell (jc_call ((ok_G6 T 14).2) rfl (hr.mono (by decide)) (by rfl) T.g_is_row T.F_is_row.kp T.b_is_row (ja_c (jc_sh (je_ix (je_var (i := 0) rfl (by first | exact Or.inl rfl | exact Or.inr (Or.inl rfl) | exact Or.inr (Or.inr rfl))) je_int (fun _ _ => rfl))) (ja_c (jc_lo (jl_var (i := 1) rfl (by first | exact Or.inl rfl | exact Or.inr (Or.inl rfl) | exact Or.inr (Or.inr rfl)))) (ja_c (jc_sh je_int) ja_nil))))))))))))
theorem ok_show_boxes (T : Tx w K mg) : FnOk P w K mg base CX0 1 T.a_show_boxes T.d_show_boxes ["boxes"] (spF K 1 f_show_boxes) := by
  have sc := sc_show_boxes
  refine fn_J T.F_show_boxes sc rfl rfl (by decide) fun cdv A outer s H E hr => ?_
  exact (jss_one (js_ret (jc_sh (je_m1 PySem.F.slot_str_join PySem.F.type_str_join mt_join ms_join je_str (je_bin op_addA os_add (je_bin op_addA os_add (je_tup (ja_c (jc_sh je_str) ja_nil)) (je_var (i := 0) rfl (by first | exact Or.inl rfl | exact Or.inr (Or.inl rfl) | exact Or.inr (Or.inr rfl)))) (je_tup (ja_c (jc_sh je_str) ja_nil)))))))
theorem ok_G10 (T : Tx w K mg) : ∀ k : Nat, FnOk P w K mg base CX0 (1 + k) T.a_show_rows T.d_show_rows ["rows"] (spF K 1 (f_G10 k 0)) ∧ FnOk P w K mg base CX0 (1 + k) T.a_show_word T.d_show_word ["word"] (spF K 1 (f_G10 k 1)) ∧ FnOk P w K mg base CX0 (1 + k) T.a_show_row T.d_show_row ["row"] (spF K 1 (f_G10 k 2))
  | 0 => ⟨fn_bad rfl, fn_bad rfl, fn_bad rfl⟩
  | k + 1 => by
    have ih := ok_G10 T k
    exact ⟨(by
      have sc := sc_show_rows
      refine fn_J T.F_show_rows sc rfl rfl (by decide) fun cdv A outer s H E hr => ?_
      exact (jss_cons (js_set (i := 1) sc.nd rfl (by first | exact Or.inl rfl | exact Or.inr rfl) (jc_lo (jl_new (jo_lst (ja_c (jc_sh je_str) ja_nil)))))
    (jss_cons (js_for PassesOwn.never rfl (ji_enum (by rfl) T.z_enumerate (je_var (i := 0) rfl (by first | exact Or.inl rfl | exact Or.inr (Or.inl rfl) | exact Or.inr (Or.inr rfl)))) (jg_tup rfl (jgs_cons (jg_name (i := 2) sc.nd rfl (by first | exact Or.inl rfl | exact Or.inr rfl)) (jgs_cons (jg_name (i := 3) sc.nd rfl (by first | exact Or.inl rfl | exact Or.inr rfl)) jgs_nil)))
    (jss_cons (js_if (jt_cmp op_gtA os_ord (je_var (i := 2) rfl (by first | exact Or.inl rfl | exact Or.inr (Or.inl rfl) | exact Or.inr (Or.inr rfl))) je_int (nomark _))
    (jss_one (js_app (jl_var (i := 1) rfl (by first | exact Or.inl rfl | exact Or.inr (Or.inl rfl) | exact Or.inr (Or.inr rfl))) (jc_sh je_str) (PE0 := (pe_bm PySem.F.plainAttrs_list PySem.F.slot_list_append PySem.F.type_list_append mt_append (jl_var (i := 1) rfl (by first | exact Or.inl rfl | exact Or.inr (Or.inl rfl) | exact Or.inr (Or.inr rfl))) (pa_cons (jc_sh je_str) pa_nil)))))
    jss_nil)
    (jss_one (js_if (jt_cmp (op_neA hr.units) os_ne (je_var (i := 3) rfl (by first | exact Or.inl rfl | exact Or.inr (Or.inl rfl) | exact Or.inr (Or.inr rfl))) (je_tup ja_nil) (nomark _))
    (jss_one (js_app (jl_var (i := 1) rfl (by first | exact Or.inl rfl | exact Or.inr (Or.inl rfl) | exact Or.inr (Or.inr rfl))) (jc_sh (je_cell (jc_call ih.2.2 rfl hr (by rfl) T.g_show_row T.F_show_row.kp T.b_show_row (ja_c (jc_sh (je_var (i := 3) rfl (by first | exact Or.inl rfl | exact Or.inr (Or.inl rfl) | exact Or.inr (Or.inr rfl)))) ja_nil)))) (PE0 := (pe_bm PySem.F.plainAttrs_list PySem.F.slot_list_append PySem.F.type_list_append mt_append (jl_var (i := 1) rfl (by first | exact Or.inl rfl | exact Or.inr (Or.inl rfl) | exact Or.inr (Or.inr rfl))) (pa_cons (jc_sh (je_cell (jc_call ih.2.2 rfl hr (by rfl) T.g_show_row T.F_show_row.kp T.b_show_row (ja_c (jc_sh (je_var (i := 3) rfl (by first | exact Or.inl rfl | exact Or.inr (Or.inl rfl) | exact Or.inr (Or.inr rfl)))) ja_nil)))) pa_nil)))))
    jss_nil))))
    (jss_one (js_ret (jc_sh (je_m1 PySem.F.slot_str_join PySem.F.type_str_join mt_join ms_join je_str (je_fr (jo_cat (jc_lo (jl_var (i := 1) rfl (by first | exact Or.inl rfl | exact Or.inr (Or.inl rfl) | exact Or.inr (Or.inr rfl)))) (jc_sh (je_lst (ja_c (jc_sh je_str) ja_nil)))))))))))), (by
      have sc := sc_show_word
      refine fn_J T.F_show_word sc rfl rfl (by decide) fun cdv A outer s H E hr => ?_
      exact (jss_cons (js_if (jt_cmp (op_eqA hr.units) os_eq (je_ix (je_var (i := 0) rfl (by first | exact Or.inl rfl | exact Or.inr (Or.inl rfl) | exact Or.inr (Or.inr rfl))) je_int (fun _ _ => rfl)) je_str (nomark _))
    (jss_one (js_ret (jc_sh (je_bin op_addA os_add je_str (je_cell (jc_call ih.1 rfl hr (by rfl) T.g_show_rows T.F_show_rows.kp T.b_show_rows (ja_c (jc_sh (je_ix (je_var (i := 0) rfl (by first | exact Or.inl rfl | exact Or.inr (Or.inl rfl) | exact Or.inr (Or.inr rfl))) je_int (fun _ _ => rfl))) ja_nil)))))))
    jss_nil)
    (jss_cons (js_if (jt_cmp (op_eqA hr.units) os_eq (je_ix (je_var (i := 0) rfl (by first | exact Or.inl rfl | exact Or.inr (Or.inl rfl) | exact Or.inr (Or.inr rfl))) je_int (fun _ _ => rfl)) je_str (nomark _))
    (jss_one (js_ret (jc_sh (je_bin op_addA os_add je_str (je_cell (jc_call ih.1 rfl hr (by rfl) T.g_show_rows T.F_show_rows.kp T.b_show_rows (ja_c (jc_sh (je_tup (ja_c (jc_sh (je_ix (je_var (i := 0) rfl (by first | exact Or.inl rfl | exact Or.inr (Or.inl rfl) | exact Or.inr (Or.inr rfl))) je_int (fun _ _ => rfl))) ja_nil))) ja_nil)))))))
    jss_nil)
    (jss_cons (js_if (jt_cmp (op_eqA hr.units) os_eq (je_ix (je_var (i := 0) rfl (by first | exact Or.inl rfl | exact Or.inr (Or.inl rfl) | exact Or.inr (Or.inr rfl))) je_int (fun _ _ => rfl)) je_str (nomark _))
    (jss_one (js_ret (jc_sh (je_bin op_addA os_add je_str (je_cell (jc_call (ok_show_boxes T) rfl (hr.mono (Nat.le_trans (m := 1) (by decide) (Nat.le_add_right _ _))) (by rfl) T.g_show_boxes T.F_show_boxes.kp T.b_show_boxes (ja_c (jc_sh (je_ix (je_var (i := 0) rfl (by first | exact Or.inl rfl | exact Or.inr (Or.inl rfl) | exact Or.inr (Or.inr rfl))) je_int (fun _ _ => rfl))) ja_nil)))))))
    jss_nil)
    (jss_cons (js_if (jt_cmp (op_eqA hr.units) os_eq (je_ix (je_var (i := 0) rfl (by first | exact Or.inl rfl | exact Or.inr (Or.inl rfl) | exact Or.inr (Or.inr rfl))) je_int (fun _ _ => rfl)) je_str (nomark _))
    (jss_one (js_ret (jc_sh (je_bin op_addA os_add (je_bin op_addA os_add (je_bin op_addA os_add (je_bin op_addA os_add (je_bin op_addA os_add je_str (je_ix (je_var (i := 0) rfl (by first | exact Or.inl rfl | exact Or.inr (Or.inl rfl) | exact Or.inr (Or.inr rfl))) je_int (fun _ _ => rfl))) je_str) (je_cell (jc_call (ok_show_boxes T) rfl (hr.mono (Nat.le_trans (m := 1) (by decide) (Nat.le_add_right _ _))) (by rfl) T.g_show_boxes T.F_show_boxes.kp T.b_show_boxes (ja_c (jc_sh (je_ix (je_var (i := 0) rfl (by first | exact Or.inl rfl | exact Or.inr (Or.inl rfl) | exact Or.inr (Or.inr rfl))) je_int (fun _ _ => rfl))) ja_nil)))) je_str) (je_cell (jc_call (ok_show_boxes T) rfl (hr.mono (Nat.le_trans (m := 1) (by decide) (Nat.le_add_right _ _))) (by rfl) T.g_show_boxes T.F_show_boxes.kp T.b_show_boxes (ja_c (jc_sh (je_ix (je_var (i := 0) rfl (by first | exact Or.inl rfl | exact Or.inr (Or.inl rfl) | exact Or.inr (Or.inr rfl))) je_int (fun _ _ => rfl))) ja_nil)))))))
    jss_nil)
    (jss_one (js_ret (jc_sh (je_m1 PySem.F.slot_str_join PySem.F.type_str_join mt_join ms_join je_str (je_fr (jo_comp (own := [("part", 1)]) (by decide) rfl sc.nd (ji_any (je_var (i := 0) rfl (by first | exact Or.inl rfl | exact Or.inr (Or.inl rfl) | exact Or.inr (Or.inr rfl)))) (blkOk_by (N := N_show_word) (sc := defScope s_show_word) (by decide +kernel)) (fun _ _ _ _ _ => (jg_name (i := 1) sc.nd rfl (by first | exact Or.inl rfl | exact Or.inr rfl))) (fun _ _ _ _ _ => jts_nil) (fun _ _ _ _ _ => (je_callTy call_strA cs_strA (by rfl) T.z_str (by decide +kernel) (ja_c (jc_sh (je_var (i := 1) rfl (by first | exact Or.inl rfl | exact Or.inr (Or.inl rfl) | exact Or.inr (Or.inr rfl)))) ja_nil)))))))))))))), (by
      have sc := sc_show_row
      refine fn_J T.F_show_row sc rfl rfl (by decide) fun cdv A outer s H E hr => ?_
      exact (jss_one (js_ret (jc_sh (je_m1 PySem.F.slot_str_join PySem.F.type_str_join mt_join ms_join je_str (je_fr (jo_comp (own := [("word", 1)]) (by decide) rfl sc.nd (ji_any (je_var (i := 0) rfl (by first | exact Or.inl rfl | exact Or.inr (Or.inl rfl) | exact Or.inr (Or.inr rfl)))) (blkOk_by (N := N_show_row) (sc := defScope s_show_row) (by decide +kernel)) (fun _ _ _ _ _ => (jg_name (i := 1) sc.nd rfl (by first | exact Or.inl rfl | exact Or.inr rfl))) (fun _ _ _ _ _ => jts_nil) (fun _ _ _ _ _ => (je_cell (jc_call ih.2.1 rfl hr (by rfl) T.g_show_word T.F_show_word.kp T.b_show_word (ja_c (jc_sh (je_var (i := 1) rfl (by first | exact Or.inl rfl | exact Or.inr (Or.inl rfl) | exact Or.inr (Or.inr rfl)))) ja_nil)))))))))))⟩
theorem ok_show_def (T : Tx w K mg) : FnOk P w K mg base CX0 22 T.a_show_def T.d_show_def ["one"] (spF K 1 f_show_def) := by
  have sc := sc_show_def
  refine fn_J T.F_show_def sc rfl rfl (by decide) fun cdv A outer s H E hr => ?_
  exact (jss_cons (js_asg (jc_sh (je_var (i := 0) rfl (by first | exact Or.inl rfl | exact Or.inr (Or.inl rfl) | exact Or.inr (Or.inr rfl)))) (jg_tup rfl (jgs_cons (jg_name (i := 1) sc.nd rfl (by first | exact Or.inl rfl | exact Or.inr rfl)) (jgs_cons (jg_name (i := 2) sc.nd rfl (by first | exact Or.inl rfl | exact Or.inr rfl)) (jgs_cons (jg_name (i := 3) sc.nd rfl (by first | exact Or.inl rfl | exact Or.inr rfl)) (jgs_cons (jg_name (i := 4) sc.nd rfl (by first | exact Or.inl rfl | exact Or.inr rfl)) jgs_nil))))))
    (jss_one (js_ret (jc_sh (je_bin op_addA os_add (je_bin op_addA os_add (je_bin op_addA os_add (je_bin op_addA os_add (je_bin op_addA os_add (je_bin op_addA os_add (je_bin op_addA os_add je_str (je_var (i := 1) rfl (by first | exact Or.inl rfl | exact Or.inr (Or.inl rfl) | exact Or.inr (Or.inr rfl)))) je_str) (je_cell (jc_call (ok_show_boxes T) rfl (hr.mono (by decide)) (by rfl) T.g_show_boxes T.F_show_boxes.kp T.b_show_boxes (ja_c (jc_sh (je_var (i := 2) rfl (by first | exact Or.inl rfl | exact Or.inr (Or.inl rfl) | exact Or.inr (Or.inr rfl)))) ja_nil)))) je_str) (je_cell (jc_call (ok_show_boxes T) rfl (hr.mono (by decide)) (by rfl) T.g_show_boxes T.F_show_boxes.kp T.b_show_boxes (ja_c (jc_sh (je_var (i := 3) rfl (by first | exact Or.inl rfl | exact Or.inr (Or.inl rfl) | exact Or.inr (Or.inr rfl)))) ja_nil)))) je_str) (je_cell (jc_call ((ok_G10 T 20).1) rfl (hr.mono (by decide)) (by rfl) T.g_show_rows T.F_show_rows.kp T.b_show_rows (ja_c (jc_sh (je_tup (ja_c (jc_sh (je_var (i := 4) rfl (by first | exact Or.inl rfl | exact Or.inr (Or.inl rfl) | exact Or.inr (Or.inr rfl)))) ja_nil))) ja_nil))))))))
theorem ok_show_program (T : Tx w K mg) : FnOk P w K mg base CX0 23 T.a_show_program T.d_show_program ["program"] (spF K 1 f_show_program) := by
  have sc := sc_show_program
  refine fn_J T.F_show_program sc rfl rfl (by decide) fun cdv A outer s H E hr => ?_
  exact (jss_cons (js_lc (mc := (fun m => mSh (mFr m))) (i := 1) (own := [("one", 2)]) (by decide) rfl sc.nd rfl rfl mc_fr (sw_true rfl rfl rfl (by decide +kernel)) (ji_any (je_ix (je_var (i := 0) rfl (by first | exact Or.inl rfl | exact Or.inr (Or.inl rfl) | exact Or.inr (Or.inr rfl))) je_int (fun _ _ => rfl))) (blkOk_by (N := N_show_program) (sc := defScope s_show_program) (by decide +kernel)) (fun _ _ _ _ _ => (jg_name (i := 2) sc.nd rfl (by first | exact Or.inl rfl | exact Or.inr rfl))) (fun _ _ _ _ _ => jts_nil) (fun _ _ _ _ _ => (je_cell (jc_call (ok_show_def T) rfl (hr.mono (by decide)) (by rfl) T.g_show_def T.F_show_def.kp T.b_show_def (ja_c (jc_sh (je_var (i := 2) rfl (by first | exact Or.inl rfl | exact Or.inr (Or.inl rfl) | exact Or.inr (Or.inr rfl)))) ja_nil)))))
    (jss_one (js_ret (jc_sh (je_m1 PySem.F.slot_str_join PySem.F.type_str_join mt_join ms_join je_str (je_bin op_addA os_add (je_var (i := 1) rfl (by first | exact Or.inl rfl | exact Or.inr (Or.inl rfl) | exact Or.inr (Or.inr rfl))) (je_lst (ja_c (jc_sh (je_bin op_addA os_add je_str (je_cell (jc_call ((ok_G10 T 20).1) rfl (hr.mono (by decide)) (by rfl) T.g_show_rows T.F_show_rows.kp T.b_show_rows (ja_c (jc_sh (je_tup (ja_c (jc_sh (je_ix (je_var (i := 0) rfl (by first | exact Or.inl rfl | exact Or.inr (Or.inl rfl) | exact Or.inr (Or.inr rfl))) je_int (fun _ _ => rfl))) ja_nil))) ja_nil))))) ja_nil))))))))
theorem ok_Line___init__ (T : Tx w K mg) : FnOk P w K mg base CX0 1 T.a_Line___init__ T.d_Line___init__ ["self", "text"] (spF K 2 f_Line___init__) := by
  have sc := sc_Line___init__
  refine fn_J T.F_Line___init__ sc rfl rfl (by decide) fun cdv A outer s H E hr => ?_
  exact (jss_cons (js_setF T.cl_Line T.ck_Line T.na_Line_groups (jl_var (i := 0) rfl (by first | exact Or.inl rfl | exact Or.inr (Or.inl rfl) | exact Or.inr (Or.inr rfl))) (jc_sh (je_m1 PySem.F.slot_str_split PySem.F.type_str_split mt_split ms_split (je_var (i := 1) rfl (by first | exact Or.inl rfl | exact Or.inr (Or.inl rfl) | exact Or.inr (Or.inr rfl))) je_str)))
    (jss_cons (js_setF T.cl_Line T.ck_Line T.na_Line_reached (jl_var (i := 0) rfl (by first | exact Or.inl rfl | exact Or.inr (Or.inl rfl) | exact Or.inr (Or.inr rfl))) (jc_sh je_int))
    (jss_one (js_setF T.cl_Line T.ck_Line T.na_Line_braces (jl_var (i := 0) rfl (by first | exact Or.inl rfl | exact Or.inr (Or.inl rfl) | exact Or.inr (Or.inr rfl))) (jc_sh je_int)))))
theorem ok_Line_group_ahead (T : Tx w K mg) : FnOk P w K mg base CX0 1 T.a_Line_group_ahead T.d_Line_group_ahead ["self"] (spF K 1 f_Line_group_ahead) := by
  have sc := sc_Line_group_ahead
  refine fn_J T.F_Line_group_ahead sc rfl rfl (by decide) fun cdv A outer s H E hr => ?_
  exact (jss_cons (js_if (jt_cmp (op_eqA hr.units) os_eq (je_cell (jc_fld T.cl_Line T.ck_Line T.na_Line_reached (jl_var (i := 0) rfl (by first | exact Or.inl rfl | exact Or.inr (Or.inl rfl) | exact Or.inr (Or.inr rfl))))) (je_callB call_lenA cs_len (by rfl) T.z_len (by decide +kernel) (ja_c (jc_sh (je_cell (jc_fld T.cl_Line T.ck_Line T.na_Line_groups (jl_var (i := 0) rfl (by first | exact Or.inl rfl | exact Or.inr (Or.inl rfl) | exact Or.inr (Or.inr rfl)))))) ja_nil)) (nomark _))
    (jss_one (js_ret (jc_sh je_str)))
    jss_nil)
    (jss_one (js_ret (jc_sh (je_ix (je_cell (jc_fld T.cl_Line T.ck_Line T.na_Line_groups (jl_var (i := 0) rfl (by first | exact Or.inl rfl | exact Or.inr (Or.inl rfl) | exact Or.inr (Or.inr rfl))))) (je_cell (jc_fld T.cl_Line T.ck_Line T.na_Line_reached (jl_var (i := 0) rfl (by first | exact Or.inl rfl | exact Or.inr (Or.inl rfl) | exact Or.inr (Or.inr rfl))))) (fun _ _ => rfl))))))
theorem ok_Line_pulled (T : Tx w K mg) : FnOk P w K mg base CX0 2 T.a_Line_pulled T.d_Line_pulled ["self"] (spF K 1 f_Line_pulled) := by
  have sc := sc_Line_pulled
  refine fn_J T.F_Line_pulled sc rfl rfl (by decide) fun cdv A outer s H E hr => ?_
  exact (jss_cons (js_set (i := 1) sc.nd rfl (by first | exact Or.inl rfl | exact Or.inr rfl) (jc_sh (je_cell (jc_meth0 T.cl_Line T.ck_Line T.me_Line_group_ahead (ok_Line_group_ahead T) (hr.mono (by decide)) T.b_Line_group_ahead (jl_var (i := 0) rfl (by first | exact Or.inl rfl | exact Or.inr (Or.inl rfl) | exact Or.inr (Or.inr rfl)))))))
    (jss_cons (js_if (jt_cmp (op_eqA hr.units) os_eq (je_var (i := 1) rfl (by first | exact Or.inl rfl | exact Or.inr (Or.inl rfl) | exact Or.inr (Or.inr rfl))) je_str (nomark _))
    (jss_one js_bad)
    jss_nil)
    (jss_cons (js_augF (F := fun i j => i + j) T.cl_Line T.ck_Line T.na_Line_reached (jl_var (i := 0) rfl (by first | exact Or.inl rfl | exact Or.inr (Or.inl rfl) | exact Or.inr (Or.inr rfl))) in_add)
    (jss_one (js_ret (jc_sh (je_var (i := 1) rfl (by first | exact Or.inl rfl | exact Or.inr (Or.inl rfl) | exact Or.inr (Or.inr rfl)))))))))
theorem ok_Line_expect (T : Tx w K mg) : FnOk P w K mg base CX0 3 T.a_Line_expect T.d_Line_expect ["self", "group"] (spF K 2 f_Line_expect) := by
  have sc := sc_Line_expect
  refine fn_J T.F_Line_expect sc rfl rfl (by decide) fun cdv A outer s H E hr => ?_
  exact (jss_one (js_if (jt_cmp (op_neA hr.units) os_ne (je_cell (jc_meth0 T.cl_Line T.ck_Line T.me_Line_pulled (ok_Line_pulled T) (hr.mono (by decide)) T.b_Line_pulled (jl_var (i := 0) rfl (by first | exact Or.inl rfl | exact Or.inr (Or.inl rfl) | exact Or.inr (Or.inr rfl))))) (je_var (i := 1) rfl (by first | exact Or.inl rfl | exact Or.inr (Or.inl rfl) | exact Or.inr (Or.inr rfl))) (nomark _))
    (jss_one js_bad)
    jss_nil))
theorem ok_Line_pulled_boxes (T : Tx w K mg) : FnOk P w K mg base CX0 4 T.a_Line_pulled_boxes T.d_Line_pulled_boxes ["self"] (spF K 1 f_Line_pulled_boxes) := by
  have sc := sc_Line_pulled_boxes
  refine fn_J T.F_Line_pulled_boxes sc rfl rfl (by decide) fun cdv A outer s H E hr => ?_
  exact (jss_cons (js_expr (jc_sh (je_cell (jc_meth T.cl_Line T.ck_Line T.me_Line_expect (ok_Line_expect T) rfl (hr.mono (by decide)) T.b_Line_expect (jl_var (i := 0) rfl (by first | exact Or.inl rfl | exact Or.inr (Or.inl rfl) | exact Or.inr (Or.inr rfl))) (ja_c (jc_sh je_str) ja_nil)))))
    (jss_cons (js_set (i := 1) sc.nd rfl (by first | exact Or.inl rfl | exact Or.inr rfl) (jc_lo (jl_new (jo_lst ja_nil))))
    (jss_cons (js_while 1000000 PassesOwn.never (jt_cmp (op_neA hr.units) os_ne (je_cell (jc_meth0 T.cl_Line T.ck_Line T.me_Line_group_ahead (ok_Line_group_ahead T) (hr.mono (by decide)) T.b_Line_group_ahead (jl_var (i := 0) rfl (by first | exact Or.inl rfl | exact Or.inr (Or.inl rfl) | exact Or.inr (Or.inr rfl))))) je_str (nomark _))
    (jss_one (js_app (jl_var (i := 1) rfl (by first | exact Or.inl rfl | exact Or.inr (Or.inl rfl) | exact Or.inr (Or.inr rfl))) (jc_sh (je_cell (jc_meth0 T.cl_Line T.ck_Line T.me_Line_pulled (ok_Line_pulled T) (hr.mono (by decide)) T.b_Line_pulled (jl_var (i := 0) rfl (by first | exact Or.inl rfl | exact Or.inr (Or.inl rfl) | exact Or.inr (Or.inr rfl)))))) (PE0 := (pe_bm PySem.F.plainAttrs_list PySem.F.slot_list_append PySem.F.type_list_append mt_append (jl_var (i := 1) rfl (by first | exact Or.inl rfl | exact Or.inr (Or.inl rfl) | exact Or.inr (Or.inr rfl))) (pa_cons (jc_sh (je_cell (jc_meth0 T.cl_Line T.ck_Line T.me_Line_pulled (ok_Line_pulled T) (hr.mono (by decide)) T.b_Line_pulled (jl_var (i := 0) rfl (by first | exact Or.inl rfl | exact Or.inr (Or.inl rfl) | exact Or.inr (Or.inr rfl)))))) pa_nil))))))
    (jss_cons (js_expr (jc_sh (je_cell (jc_meth T.cl_Line T.ck_Line T.me_Line_expect (ok_Line_expect T) rfl (hr.mono (by decide)) T.b_Line_expect (jl_var (i := 0) rfl (by first | exact Or.inl rfl | exact Or.inr (Or.inl rfl) | exact Or.inr (Or.inr rfl))) (ja_c (jc_sh je_str) ja_nil)))))
    (jss_one (js_ret (jc_sh (je_tupOf (by rfl) T.z_tuple (by decide +kernel) (jc_lo (jl_var (i := 1) rfl (by first | exact Or.inl rfl | exact Or.inr (Or.inl rfl) | exact Or.inr (Or.inr rfl))))))))))))
theorem ok_Line_pulled_number (T : Tx w K mg) : FnOk P w K mg base CX0 3 T.a_Line_pulled_number T.d_Line_pulled_number ["self"] (spF K 1 f_Line_pulled_number) := by
  have sc := sc_Line_pulled_number
  refine fn_J T.F_Line_pulled_number sc rfl rfl (by decide) fun cdv A outer s H E hr => ?_
  exact (jss_cons (js_set (i := 1) sc.nd rfl (by first | exact Or.inl rfl | exact Or.inr rfl) (jc_sh (je_cell (jc_meth0 T.cl_Line T.ck_Line T.me_Line_pulled (ok_Line_pulled T) (hr.mono (by decide)) T.b_Line_pulled (jl_var (i := 0) rfl (by first | exact Or.inl rfl | exact Or.inr (Or.inl rfl) | exact Or.inr (Or.inr rfl)))))))
    (jss_cons (js_if (PW.pt (jw_or (jt_cmp op_gtA os_ord (je_callB call_lenA cs_len (by rfl) T.z_len (by decide +kernel) (ja_c (jc_sh (je_var (i := 1) rfl (by first | exact Or.inl rfl | exact Or.inr (Or.inl rfl) | exact Or.inr (Or.inr rfl)))) ja_nil)) (je_glob (by rfl) T.g_MOST_FIGURES T.v_MOST_FIGURES T.r_MOST_FIGURES) (nomark _)) (jw_or1 (jt_not (jt_val (je_callB (cr_all rfl) (cs_bools (f := fun bs => bs.all id)) (by rfl) T.z_all (by decide +kernel) (ja_c (jc_sh (je_fr (jo_comp (own := [("sign", 2)]) (by decide) rfl sc.nd (ji_any (je_var (i := 1) rfl (by first | exact Or.inl rfl | exact Or.inr (Or.inl rfl) | exact Or.inr (Or.inr rfl)))) (blkOk_by (N := N_Line_pulled_number) (sc := defScope s_Line_pulled_number) (by decide +kernel)) (fun _ _ _ _ _ => (jg_name (i := 2) sc.nd rfl (by first | exact Or.inl rfl | exact Or.inr rfl))) (fun _ _ _ _ _ => jts_nil) (fun _ _ _ _ _ => (je_cmp op_inA os_in (je_var (i := 2) rfl (by first | exact Or.inl rfl | exact Or.inr (Or.inl rfl) | exact Or.inr (Or.inr rfl))) (je_glob (by rfl) T.g_FIGURES T.v_FIGURES T.r_FIGURES) (by rfl)))))) ja_nil)))))))
    (jss_one js_bad)
    jss_nil)
    (jss_one (js_ret (jc_sh (je_callTy call_int_str cs_intS (by rfl) T.z_int (by decide +kernel) (ja_c (jc_sh (je_var (i := 1) rfl (by first | exact Or.inl rfl | exact Or.inr (Or.inl rfl) | exact Or.inr (Or.inr rfl)))) ja_nil)))))))
theorem ok_G19 (T : Tx w K mg) : ∀ k : Nat, FnOk P w K mg base CX0 (4 + k) T.a_Line_pulled_rows T.d_Line_pulled_rows ["self"] (spF K 1 (f_G19 k 0)) ∧ FnOk P w K mg base CX0 (4 + k) T.a_Line_pulled_row T.d_Line_pulled_row ["self"] (spF K 1 (f_G19 k 1)) ∧ FnOk P w K mg base CX0 (4 + k) T.a_Line_pulled_word T.d_Line_pulled_word ["self"] (spF K 1 (f_G19 k 2))
  | 0 => ⟨fn_bad rfl, fn_bad rfl, fn_bad rfl⟩
  | k + 1 => by
    have ih := ok_G19 T k
    exact ⟨(by
      have sc := sc_Line_pulled_rows
      refine fn_J T.F_Line_pulled_rows sc rfl rfl (by decide) fun cdv A outer s H E hr => ?_
      exact (jss_cons (js_expr (jc_sh (je_cell (jc_meth T.cl_Line T.ck_Line T.me_Line_expect (ok_Line_expect T) rfl (hr.mono (Nat.le_trans (m := 4) (by decide) (Nat.le_add_right _ _))) T.b_Line_expect (jl_var (i := 0) rfl (by first | exact Or.inl rfl | exact Or.inr (Or.inl rfl) | exact Or.inr (Or.inr rfl))) (ja_c (jc_sh je_str) ja_nil)))))
    (jss_cons (js_augF (F := fun i j => i + j) T.cl_Line T.ck_Line T.na_Line_braces (jl_var (i := 0) rfl (by first | exact Or.inl rfl | exact Or.inr (Or.inl rfl) | exact Or.inr (Or.inr rfl))) in_add)
    (jss_cons (js_if (jt_cmp op_gtA os_ord (je_cell (jc_fld T.cl_Line T.ck_Line T.na_Line_braces (jl_var (i := 0) rfl (by first | exact Or.inl rfl | exact Or.inr (Or.inl rfl) | exact Or.inr (Or.inr rfl))))) (je_glob (by rfl) T.g_DEEPEST T.v_DEEPEST T.r_DEEPEST) (nomark _))
    (jss_one js_bad)
    jss_nil)
    (jss_cons (js_set (i := 1) sc.nd rfl (by first | exact Or.inl rfl | exact Or.inr rfl) (jc_lo (jl_new (jo_lst (ja_c (jc_sh (je_cell (jc_meth0 T.cl_Line T.ck_Line T.me_Line_pulled_row ih.2.1 hr T.b_Line_pulled_row (jl_var (i := 0) rfl (by first | exact Or.inl rfl | exact Or.inr (Or.inl rfl) | exact Or.inr (Or.inr rfl)))))) ja_nil)))))
    (jss_cons (js_while 1000000 PassesOwn.never (jt_cmp (op_eqA hr.units) os_eq (je_cell (jc_meth0 T.cl_Line T.ck_Line T.me_Line_group_ahead (ok_Line_group_ahead T) (hr.mono (Nat.le_trans (m := 4) (by decide) (Nat.le_add_right _ _))) T.b_Line_group_ahead (jl_var (i := 0) rfl (by first | exact Or.inl rfl | exact Or.inr (Or.inl rfl) | exact Or.inr (Or.inr rfl))))) je_str (nomark _))
    (jss_cons (js_expr (jc_sh (je_cell (jc_meth T.cl_Line T.ck_Line T.me_Line_expect (ok_Line_expect T) rfl (hr.mono (Nat.le_trans (m := 4) (by decide) (Nat.le_add_right _ _))) T.b_Line_expect (jl_var (i := 0) rfl (by first | exact Or.inl rfl | exact Or.inr (Or.inl rfl) | exact Or.inr (Or.inr rfl))) (ja_c (jc_sh je_str) ja_nil)))))
    (jss_one (js_app (jl_var (i := 1) rfl (by first | exact Or.inl rfl | exact Or.inr (Or.inl rfl) | exact Or.inr (Or.inr rfl))) (jc_sh (je_cell (jc_meth0 T.cl_Line T.ck_Line T.me_Line_pulled_row ih.2.1 hr T.b_Line_pulled_row (jl_var (i := 0) rfl (by first | exact Or.inl rfl | exact Or.inr (Or.inl rfl) | exact Or.inr (Or.inr rfl)))))) (PE0 := (pe_bm PySem.F.plainAttrs_list PySem.F.slot_list_append PySem.F.type_list_append mt_append (jl_var (i := 1) rfl (by first | exact Or.inl rfl | exact Or.inr (Or.inl rfl) | exact Or.inr (Or.inr rfl))) (pa_cons (jc_sh (je_cell (jc_meth0 T.cl_Line T.ck_Line T.me_Line_pulled_row ih.2.1 hr T.b_Line_pulled_row (jl_var (i := 0) rfl (by first | exact Or.inl rfl | exact Or.inr (Or.inl rfl) | exact Or.inr (Or.inr rfl)))))) pa_nil)))))))
    (jss_cons (js_expr (jc_sh (je_cell (jc_meth T.cl_Line T.ck_Line T.me_Line_expect (ok_Line_expect T) rfl (hr.mono (Nat.le_trans (m := 4) (by decide) (Nat.le_add_right _ _))) T.b_Line_expect (jl_var (i := 0) rfl (by first | exact Or.inl rfl | exact Or.inr (Or.inl rfl) | exact Or.inr (Or.inr rfl))) (ja_c (jc_sh je_str) ja_nil)))))
    (jss_cons (js_augF (F := fun i j => i - j) T.cl_Line T.ck_Line T.na_Line_braces (jl_var (i := 0) rfl (by first | exact Or.inl rfl | exact Or.inr (Or.inl rfl) | exact Or.inr (Or.inr rfl))) in_sub)
    (jss_one (js_ret (jc_sh (je_tupOf (by rfl) T.z_tuple (by decide +kernel) (jc_lo (jl_var (i := 1) rfl (by first | exact Or.inl rfl | exact Or.inr (Or.inl rfl) | exact Or.inr (Or.inr rfl)))))))))))))))), (by
      have sc := sc_Line_pulled_row
      refine fn_J T.F_Line_pulled_row sc rfl rfl (by decide) fun cdv A outer s H E hr => ?_
      exact (jss_cons (js_set (i := 1) sc.nd rfl (by first | exact Or.inl rfl | exact Or.inr rfl) (jc_lo (jl_new (jo_lst ja_nil))))
    (jss_cons (js_while 1000000 PassesOwn.never (jt_cmp op_notInA os_notIn (je_cell (jc_meth0 T.cl_Line T.ck_Line T.me_Line_group_ahead (ok_Line_group_ahead T) (hr.mono (Nat.le_trans (m := 4) (by decide) (Nat.le_add_right _ _))) T.b_Line_group_ahead (jl_var (i := 0) rfl (by first | exact Or.inl rfl | exact Or.inr (Or.inl rfl) | exact Or.inr (Or.inr rfl))))) (je_tup (ja_c (jc_sh je_str) (ja_c (jc_sh je_str) (ja_c (jc_sh je_str) ja_nil)))) (by rfl))
    (jss_one (js_app (jl_var (i := 1) rfl (by first | exact Or.inl rfl | exact Or.inr (Or.inl rfl) | exact Or.inr (Or.inr rfl))) (jc_sh (je_cell (jc_meth0 T.cl_Line T.ck_Line T.me_Line_pulled_word ih.2.2 hr T.b_Line_pulled_word (jl_var (i := 0) rfl (by first | exact Or.inl rfl | exact Or.inr (Or.inl rfl) | exact Or.inr (Or.inr rfl)))))) (PE0 := (pe_bm PySem.F.plainAttrs_list PySem.F.slot_list_append PySem.F.type_list_append mt_append (jl_var (i := 1) rfl (by first | exact Or.inl rfl | exact Or.inr (Or.inl rfl) | exact Or.inr (Or.inr rfl))) (pa_cons (jc_sh (je_cell (jc_meth0 T.cl_Line T.ck_Line T.me_Line_pulled_word ih.2.2 hr T.b_Line_pulled_word (jl_var (i := 0) rfl (by first | exact Or.inl rfl | exact Or.inr (Or.inl rfl) | exact Or.inr (Or.inr rfl)))))) pa_nil))))))
    (jss_one (js_ret (jc_sh (je_tupOf (by rfl) T.z_tuple (by decide +kernel) (jc_lo (jl_var (i := 1) rfl (by first | exact Or.inl rfl | exact Or.inr (Or.inl rfl) | exact Or.inr (Or.inr rfl))))))))))), (by
      have sc := sc_Line_pulled_word
      refine fn_J T.F_Line_pulled_word sc rfl rfl (by decide) fun cdv A outer s H E hr => ?_
      exact (jss_cons (js_set (i := 1) sc.nd rfl (by first | exact Or.inl rfl | exact Or.inr rfl) (jc_sh (je_cell (jc_meth0 T.cl_Line T.ck_Line T.me_Line_pulled (ok_Line_pulled T) (hr.mono (Nat.le_trans (m := 4) (by decide) (Nat.le_add_right _ _))) T.b_Line_pulled (jl_var (i := 0) rfl (by first | exact Or.inl rfl | exact Or.inr (Or.inl rfl) | exact Or.inr (Or.inr rfl)))))))
    (jss_cons (js_if (jt_cmp (op_eqA hr.units) os_eq (je_var (i := 1) rfl (by first | exact Or.inl rfl | exact Or.inr (Or.inl rfl) | exact Or.inr (Or.inr rfl))) je_str (nomark _))
    (jss_one (js_ret (jc_sh (je_tup (ja_c (jc_sh (je_var (i := 1) rfl (by first | exact Or.inl rfl | exact Or.inr (Or.inl rfl) | exact Or.inr (Or.inr rfl)))) (ja_c (jc_sh (je_cell (jc_meth0 T.cl_Line T.ck_Line T.me_Line_pulled_rows ih.1 hr T.b_Line_pulled_rows (jl_var (i := 0) rfl (by first | exact Or.inl rfl | exact Or.inr (Or.inl rfl) | exact Or.inr (Or.inr rfl)))))) ja_nil))))))
    jss_nil)
    (jss_cons (js_if (jt_cmp (op_eqA hr.units) os_eq (je_var (i := 1) rfl (by first | exact Or.inl rfl | exact Or.inr (Or.inl rfl) | exact Or.inr (Or.inr rfl))) je_str (nomark _))
    (jss_one (js_ret (jc_sh (je_bin op_addA os_add (je_tup (ja_c (jc_sh (je_var (i := 1) rfl (by first | exact Or.inl rfl | exact Or.inr (Or.inl rfl) | exact Or.inr (Or.inr rfl)))) ja_nil)) (je_cell (jc_meth0 T.cl_Line T.ck_Line T.me_Line_pulled_rows ih.1 hr T.b_Line_pulled_rows (jl_var (i := 0) rfl (by first | exact Or.inl rfl | exact Or.inr (Or.inl rfl) | exact Or.inr (Or.inr rfl)))))))))
    jss_nil)
    (jss_cons (js_if (jt_cmp (op_eqA hr.units) os_eq (je_var (i := 1) rfl (by first | exact Or.inl rfl | exact Or.inr (Or.inl rfl) | exact Or.inr (Or.inr rfl))) je_str (nomark _))
    (jss_one (js_ret (jc_sh (je_tup (ja_c (jc_sh (je_var (i := 1) rfl (by first | exact Or.inl rfl | exact Or.inr (Or.inl rfl) | exact Or.inr (Or.inr rfl)))) (ja_c (jc_sh (je_cell (jc_meth0 T.cl_Line T.ck_Line T.me_Line_pulled_boxes (ok_Line_pulled_boxes T) (hr.mono (Nat.le_trans (m := 4) (by decide) (Nat.le_add_right _ _))) T.b_Line_pulled_boxes (jl_var (i := 0) rfl (by first | exact Or.inl rfl | exact Or.inr (Or.inl rfl) | exact Or.inr (Or.inr rfl)))))) ja_nil))))))
    jss_nil)
    (jss_cons (js_if (jt_cmp (op_eqA hr.units) os_eq (je_var (i := 1) rfl (by first | exact Or.inl rfl | exact Or.inr (Or.inl rfl) | exact Or.inr (Or.inr rfl))) je_str (nomark _))
    (jss_one (js_ret (jc_sh (je_tup (ja_c (jc_sh (je_var (i := 1) rfl (by first | exact Or.inl rfl | exact Or.inr (Or.inl rfl) | exact Or.inr (Or.inr rfl)))) (ja_c (jc_sh (je_cell (jc_meth0 T.cl_Line T.ck_Line T.me_Line_pulled (ok_Line_pulled T) (hr.mono (Nat.le_trans (m := 4) (by decide) (Nat.le_add_right _ _))) T.b_Line_pulled (jl_var (i := 0) rfl (by first | exact Or.inl rfl | exact Or.inr (Or.inl rfl) | exact Or.inr (Or.inr rfl)))))) (ja_c (jc_sh (je_cell (jc_meth0 T.cl_Line T.ck_Line T.me_Line_pulled_boxes (ok_Line_pulled_boxes T) (hr.mono (Nat.le_trans (m := 4) (by decide) (Nat.le_add_right _ _))) T.b_Line_pulled_boxes (jl_var (i := 0) rfl (by first | exact Or.inl rfl | exact Or.inr (Or.inl rfl) | exact Or.inr (Or.inr rfl)))))) (ja_c (jc_sh (je_cell (jc_meth0 T.cl_Line T.ck_Line T.me_Line_pulled_boxes (ok_Line_pulled_boxes T) (hr.mono (Nat.le_trans (m := 4) (by decide) (Nat.le_add_right _ _))) T.b_Line_pulled_boxes (jl_var (i := 0) rfl (by first | exact Or.inl rfl | exact Or.inr (Or.inl rfl) | exact Or.inr (Or.inr rfl)))))) ja_nil))))))))
    jss_nil)
    (jss_cons (js_if (jt_cmp (op_eqA hr.units) os_eq (je_var (i := 1) rfl (by first | exact Or.inl rfl | exact Or.inr (Or.inl rfl) | exact Or.inr (Or.inr rfl))) je_str (nomark _))
    (jss_one (js_ret (jc_sh (je_tup (ja_c (jc_sh (je_var (i := 1) rfl (by first | exact Or.inl rfl | exact Or.inr (Or.inl rfl) | exact Or.inr (Or.inr rfl)))) (ja_c (jc_sh (je_cell (jc_meth0 T.cl_Line T.ck_Line T.me_Line_pulled_number (ok_Line_pulled_number T) (hr.mono (Nat.le_trans (m := 4) (by decide) (Nat.le_add_right _ _))) T.b_Line_pulled_number (jl_var (i := 0) rfl (by first | exact Or.inl rfl | exact Or.inr (Or.inl rfl) | exact Or.inr (Or.inr rfl)))))) ja_nil))))))
    jss_nil)
    (jss_cons (js_if (jt_cmp (op_eqA hr.units) os_eq (je_var (i := 1) rfl (by first | exact Or.inl rfl | exact Or.inr (Or.inl rfl) | exact Or.inr (Or.inr rfl))) je_str (nomark _))
    (jss_one (js_ret (jc_sh (je_tup (ja_c (jc_sh (je_var (i := 1) rfl (by first | exact Or.inl rfl | exact Or.inr (Or.inl rfl) | exact Or.inr (Or.inr rfl)))) (ja_c (jc_sh (je_cell (jc_meth0 T.cl_Line T.ck_Line T.me_Line_pulled (ok_Line_pulled T) (hr.mono (Nat.le_trans (m := 4) (by decide) (Nat.le_add_right _ _))) T.b_Line_pulled (jl_var (i := 0) rfl (by first | exact Or.inl rfl | exact Or.inr (Or.inl rfl) | exact Or.inr (Or.inr rfl)))))) (ja_c (jc_sh (je_cell (jc_meth0 T.cl_Line T.ck_Line T.me_Line_pulled_number (ok_Line_pulled_number T) (hr.mono (Nat.le_trans (m := 4) (by decide) (Nat.le_add_right _ _))) T.b_Line_pulled_number (jl_var (i := 0) rfl (by first | exact Or.inl rfl | exact Or.inr (Or.inl rfl) | exact Or.inr (Or.inr rfl)))))) ja_nil)))))))
    jss_nil)
    (jss_cons (js_if (jt_cmp (op_eqA hr.units) os_eq (je_var (i := 1) rfl (by first | exact Or.inl rfl | exact Or.inr (Or.inl rfl) | exact Or.inr (Or.inr rfl))) je_str (nomark _))
    (jss_one (js_ret (jc_sh (je_tup (ja_c (jc_sh (je_var (i := 1) rfl (by first | exact Or.inl rfl | exact Or.inr (Or.inl rfl) | exact Or.inr (Or.inr rfl)))) (ja_c (jc_sh (je_cell (jc_meth0 T.cl_Line T.ck_Line T.me_Line_pulled (ok_Line_pulled T) (hr.mono (Nat.le_trans (m := 4) (by decide) (Nat.le_add_right _ _))) T.b_Line_pulled (jl_var (i := 0) rfl (by first | exact Or.inl rfl | exact Or.inr (Or.inl rfl) | exact Or.inr (Or.inr rfl)))))) (ja_c (jc_sh (je_cell (jc_meth0 T.cl_Line T.ck_Line T.me_Line_pulled (ok_Line_pulled T) (hr.mono (Nat.le_trans (m := 4) (by decide) (Nat.le_add_right _ _))) T.b_Line_pulled (jl_var (i := 0) rfl (by first | exact Or.inl rfl | exact Or.inr (Or.inl rfl) | exact Or.inr (Or.inr rfl)))))) ja_nil)))))))
    jss_nil)
    (jss_cons (js_if (jt_cmp op_inA os_in (je_var (i := 1) rfl (by first | exact Or.inl rfl | exact Or.inr (Or.inl rfl) | exact Or.inr (Or.inr rfl))) (je_tup (ja_c (jc_sh je_str) (ja_c (jc_sh je_str) (ja_c (jc_sh je_str) ja_nil)))) (by rfl))
    (jss_one (js_ret (jc_sh (je_tup (ja_c (jc_sh (je_var (i := 1) rfl (by first | exact Or.inl rfl | exact Or.inr (Or.inl rfl) | exact Or.inr (Or.inr rfl)))) (ja_c (jc_sh (je_cell (jc_meth0 T.cl_Line T.ck_Line T.me_Line_pulled (ok_Line_pulled T) (hr.mono (Nat.le_trans (m := 4) (by decide) (Nat.le_add_right _ _))) T.b_Line_pulled (jl_var (i := 0) rfl (by first | exact Or.inl rfl | exact Or.inr (Or.inl rfl) | exact Or.inr (Or.inr rfl)))))) ja_nil))))))
    jss_nil)
    (jss_one (js_ret (jc_sh (je_bin op_addA os_add (je_tup (ja_c (jc_sh (je_var (i := 1) rfl (by first | exact Or.inl rfl | exact Or.inr (Or.inl rfl) | exact Or.inr (Or.inr rfl)))) ja_nil)) (je_callTy call_tuple_of cs_tuple (by rfl) T.z_tuple (by decide +kernel) (ja_c (jc_sh (je_fr (jo_comp (own := [("k", 2)]) (by decide) rfl sc.nd (ji_range1 (by rfl) T.z_range (je_kget2 (je_var (i := 1) rfl (by first | exact Or.inl rfl | exact Or.inr (Or.inl rfl) | exact Or.inr (Or.inr rfl))) je_int (by rfl) T.g_MANY_BOXES T.k_MANY_BOXES ⟨rfl, rfl, rfl, rfl⟩)) (blkOk_by (N := N_Line_pulled_word) (sc := defScope s_Line_pulled_word) (by decide +kernel)) (fun _ _ _ _ _ => (jg_name (i := 2) sc.nd rfl (by first | exact Or.inl rfl | exact Or.inr rfl))) (fun _ _ _ _ _ => jts_nil) (fun _ _ _ _ _ => (je_cell (jc_meth0 T.cl_Line T.ck_Line T.me_Line_pulled (ok_Line_pulled T) (hr.mono (Nat.le_trans (m := 4) (by decide) (Nat.le_add_right _ _))) T.b_Line_pulled (jl_var (i := 0) rfl (by first | exact Or.inl rfl | exact Or.inr (Or.inl rfl) | exact Or.inr (Or.inr rfl))))))))) ja_nil))))))))))))))))⟩
theorem ok_Line_pulled_def (T : Tx w K mg) : FnOk P w K mg base CX0 25 T.a_Line_pulled_def T.d_Line_pulled_def ["self"] (spF K 1 f_Line_pulled_def) := by
  have sc := sc_Line_pulled_def
  refine fn_J T.F_Line_pulled_def sc rfl rfl (by decide) fun cdv A outer s H E hr => ?_
  exact (jss_cons (js_expr (jc_sh (je_cell (jc_meth T.cl_Line T.ck_Line T.me_Line_expect (ok_Line_expect T) rfl (hr.mono (by decide)) T.b_Line_expect (jl_var (i := 0) rfl (by first | exact Or.inl rfl | exact Or.inr (Or.inl rfl) | exact Or.inr (Or.inr rfl))) (ja_c (jc_sh je_str) ja_nil)))))
    (jss_cons (js_set (i := 1) sc.nd rfl (by first | exact Or.inl rfl | exact Or.inr rfl) (jc_sh (je_cell (jc_meth0 T.cl_Line T.ck_Line T.me_Line_pulled (ok_Line_pulled T) (hr.mono (by decide)) T.b_Line_pulled (jl_var (i := 0) rfl (by first | exact Or.inl rfl | exact Or.inr (Or.inl rfl) | exact Or.inr (Or.inr rfl)))))))
    (jss_cons (js_set (i := 2) sc.nd rfl (by first | exact Or.inl rfl | exact Or.inr rfl) (jc_sh (je_cell (jc_meth0 T.cl_Line T.ck_Line T.me_Line_pulled_boxes (ok_Line_pulled_boxes T) (hr.mono (by decide)) T.b_Line_pulled_boxes (jl_var (i := 0) rfl (by first | exact Or.inl rfl | exact Or.inr (Or.inl rfl) | exact Or.inr (Or.inr rfl)))))))
    (jss_cons (js_set (i := 3) sc.nd rfl (by first | exact Or.inl rfl | exact Or.inr rfl) (jc_sh (je_cell (jc_meth0 T.cl_Line T.ck_Line T.me_Line_pulled_boxes (ok_Line_pulled_boxes T) (hr.mono (by decide)) T.b_Line_pulled_boxes (jl_var (i := 0) rfl (by first | exact Or.inl rfl | exact Or.inr (Or.inl rfl) | exact Or.inr (Or.inr rfl)))))))
    (jss_cons (js_set (i := 4) sc.nd rfl (by first | exact Or.inl rfl | exact Or.inr rfl) (jc_sh (je_cell (jc_meth0 T.cl_Line T.ck_Line T.me_Line_pulled_rows ((ok_G19 T 20).1) (hr.mono (by decide)) T.b_Line_pulled_rows (jl_var (i := 0) rfl (by first | exact Or.inl rfl | exact Or.inr (Or.inl rfl) | exact Or.inr (Or.inr rfl)))))))
    (jss_one (js_ret (jc_sh (je_bin op_addA os_add (je_tup (ja_c (jc_sh (je_var (i := 1) rfl (by first | exact Or.inl rfl | exact Or.inr (Or.inl rfl) | exact Or.inr (Or.inr rfl)))) (ja_c (jc_sh (je_var (i := 2) rfl (by first | exact Or.inl rfl | exact Or.inr (Or.inl rfl) | exact Or.inr (Or.inr rfl)))) (ja_c (jc_sh (je_var (i := 3) rfl (by first | exact Or.inl rfl | exact Or.inr (Or.inl rfl) | exact Or.inr (Or.inr rfl)))) ja_nil)))) (je_var (i := 4) rfl (by first | exact Or.inl rfl | exact Or.inr (Or.inl rfl) | exact Or.inr (Or.inr rfl))))))))))))
theorem ok_Line_pulled_main (T : Tx w K mg) : FnOk P w K mg base CX0 25 T.a_Line_pulled_main T.d_Line_pulled_main ["self"] (spF K 1 f_Line_pulled_main) := by
  have sc := sc_Line_pulled_main
  refine fn_J T.F_Line_pulled_main sc rfl rfl (by decide) fun cdv A outer s H E hr => ?_
  exact (jss_cons (js_expr (jc_sh (je_cell (jc_meth T.cl_Line T.ck_Line T.me_Line_expect (ok_Line_expect T) rfl (hr.mono (by decide)) T.b_Line_expect (jl_var (i := 0) rfl (by first | exact Or.inl rfl | exact Or.inr (Or.inl rfl) | exact Or.inr (Or.inr rfl))) (ja_c (jc_sh je_str) ja_nil)))))
    (jss_one (js_ret (jc_sh (je_cell (jc_meth0 T.cl_Line T.ck_Line T.me_Line_pulled_rows ((ok_G19 T 20).1) (hr.mono (by decide)) T.b_Line_pulled_rows (jl_var (i := 0) rfl (by first | exact Or.inl rfl | exact Or.inr (Or.inl rfl) | exact Or.inr (Or.inr rfl)))))))))
theorem ok_read_lines (T : Tx w K mg) : FnOk P w K mg base CX0 26 T.a_read_lines T.d_read_lines ["lines"] (spF K 1 f_read_lines) := by
  have sc := sc_read_lines
  refine fn_J T.F_read_lines sc rfl rfl (by decide) fun cdv A outer s H E hr => ?_
  exact (jss_one (js_ret (jc_sh (je_bin op_addA os_add (je_tup (ja_c (jc_sh (je_callTy call_tuple_of cs_tuple (by rfl) T.z_tuple (by decide +kernel) (ja_c (jc_sh (je_fr (jo_comp (own := [("line", 1)]) (by decide) rfl sc.nd (ji_any (je_slice (je_var (i := 0) rfl (by first | exact Or.inl rfl | exact Or.inr (Or.inl rfl) | exact Or.inr (Or.inr rfl))) jp_none (jp_some (je_neg je_int)))) (blkOk_by (N := N_read_lines) (sc := defScope s_read_lines) (by decide +kernel)) (fun _ _ _ _ _ => (jg_name (i := 1) sc.nd rfl (by first | exact Or.inl rfl | exact Or.inr rfl))) (fun _ _ _ _ _ => jts_nil) (fun _ _ _ _ _ => (je_cell (jc_meth0 T.cl_Line T.ck_Line T.me_Line_pulled_def (ok_Line_pulled_def T) (hr.mono (by decide)) T.b_Line_pulled_def (jl_make T.cl_Line T.mk_Line (ok_Line___init__ T) rfl (hr.mono (by decide)) (by rfl) T.g_Line T.b_Line___init__ (ja_c (jc_sh (je_var (i := 1) rfl (by first | exact Or.inl rfl | exact Or.inr (Or.inl rfl) | exact Or.inr (Or.inr rfl)))) ja_nil)))))))) ja_nil))) ja_nil)) (je_cell (jc_meth0 T.cl_Line T.ck_Line T.me_Line_pulled_main (ok_Line_pulled_main T) (hr.mono (by decide)) T.b_Line_pulled_main (jl_make T.cl_Line T.mk_Line (ok_Line___init__ T) rfl (hr.mono (by decide)) (by rfl) T.g_Line T.b_Line___init__ (ja_c (jc_sh (je_ix (je_var (i := 0) rfl (by first | exact Or.inl rfl | exact Or.inr (Or.inl rfl) | exact Or.inr (Or.inr rfl))) (je_neg je_int) (fun _ _ => rfl))) ja_nil))))))))
theorem ok_read_program (T : Tx w K mg) : FnOk P w K mg base CX0 27 T.a_read_program T.d_read_program ["text"] (spF K 1 f_read_program) := by
  have sc := sc_read_program
  refine fn_J T.F_read_program sc rfl rfl (by decide) fun cdv A outer s H E hr => ?_
  exact (jss_cons (js_if (jt_not (jt_val (je_isi (T := "str") (T' := "str") (je_var (i := 0) rfl (by first | exact Or.inl rfl | exact Or.inr (Or.inl rfl) | exact Or.inr (Or.inr rfl))) (by rfl) T.z_isinstance (by rfl) T.z_str (by decide +kernel))))
    (jss_one js_bad)
    jss_nil)
    (jss_cons (js_set (i := 1) sc.nd rfl (by first | exact Or.inl rfl | exact Or.inr rfl) (jc_sh (je_cell (jc_call (ok_read_lines T) rfl (hr.mono (by decide)) (by rfl) T.g_read_lines T.F_read_lines.kp T.b_read_lines (ja_c (jc_sh (je_m1 PySem.F.slot_str_split PySem.F.type_str_split mt_split ms_split (je_var (i := 0) rfl (by first | exact Or.inl rfl | exact Or.inr (Or.inl rfl) | exact Or.inr (Or.inr rfl))) je_str)) ja_nil)))))
    (jss_cons (js_if (PW.pt (jw_or (jt_not (jt_val (je_cell (jc_call (ok_is_program T) rfl (hr.mono (by decide)) (by rfl) T.g_is_program T.F_is_program.kp T.b_is_program (ja_c (jc_sh (je_var (i := 1) rfl (by first | exact Or.inl rfl | exact Or.inr (Or.inl rfl) | exact Or.inr (Or.inr rfl)))) ja_nil))))) (jw_or1 (jt_cmp (op_neA hr.units) os_ne (je_cell (jc_call (ok_show_program T) rfl (hr.mono (by decide)) (by rfl) T.g_show_program T.F_show_program.kp T.b_show_program (ja_c (jc_sh (je_var (i := 1) rfl (by first | exact Or.inl rfl | exact Or.inr (Or.inl rfl) | exact Or.inr (Or.inr rfl)))) ja_nil))) (je_var (i := 0) rfl (by first | exact Or.inl rfl | exact Or.inr (Or.inl rfl) | exact Or.inr (Or.inr rfl))) (nomark _)))))
    (jss_one js_bad)
    jss_nil)
    (jss_one (js_ret (jc_sh (je_var (i := 1) rfl (by first | exact Or.inl rfl | exact Or.inr (Or.inl rfl) | exact Or.inr (Or.inr rfl)))))))))
theorem ok__law_deck (T : Tx w K mg) : FnOk P w K mg base CX0 1 T.a__law_deck T.d__law_deck ["_law_script", "_law_k"] (spF K 2 f__law_deck) := by
  have sc := sc__law_deck
  refine fn_J T.F__law_deck sc rfl rfl (by decide) fun cdv A outer s H E hr => ?_
  exact (jss_cons (js_set (i := 2) sc.nd rfl (by first | exact Or.inl rfl | exact Or.inr rfl) (jc_sh je_int))
    (jss_cons (js_if (jt_cmp op_ltA os_ord (je_var (i := 1) rfl (by first | exact Or.inl rfl | exact Or.inr (Or.inl rfl) | exact Or.inr (Or.inr rfl))) (je_callB call_lenA cs_len (by rfl) T.z_len (by decide +kernel) (ja_c (jc_sh (je_var (i := 0) rfl (by first | exact Or.inl rfl | exact Or.inr (Or.inl rfl) | exact Or.inr (Or.inr rfl)))) ja_nil)) (nomark _))
    (jss_one (js_set (i := 2) sc.nd rfl (by first | exact Or.inl rfl | exact Or.inr rfl) (jc_sh (je_ix (je_var (i := 0) rfl (by first | exact Or.inl rfl | exact Or.inr (Or.inl rfl) | exact Or.inr (Or.inr rfl))) (je_var (i := 1) rfl (by first | exact Or.inl rfl | exact Or.inr (Or.inl rfl) | exact Or.inr (Or.inr rfl))) (fun _ _ => rfl)))))
    jss_nil)
    (jss_one (js_ret (jc_lo (jl_new (jo_lst (ja_c (jc_sh (je_bin op_mulA os_mul (je_var (i := 2) rfl (by first | exact Or.inl rfl | exact Or.inr (Or.inl rfl) | exact Or.inr (Or.inr rfl))) (je_callTy call_int1 cs_int (by rfl) T.z_int (by decide +kernel) (ja_c (jc_sh (je_cmp op_geA os_ord (je_var (i := 2) rfl (by first | exact Or.inl rfl | exact Or.inr (Or.inl rfl) | exact Or.inr (Or.inr rfl))) (je_bin op_pow os_pow je_int je_int) (nomark _))) ja_nil)))) (ja_c (jc_sh (je_bin op_mod os_mod (je_var (i := 2) rfl (by first | exact Or.inl rfl | exact Or.inr (Or.inl rfl) | exact Or.inr (Or.inr rfl))) je_int)) (ja_c (jc_sh je_int) ja_nil))))))))))
theorem ok__law_draw (T : Tx w K mg) : FnOk P w K mg base CX0 1 T.a__law_draw T.d__law_draw ["_law_deck_here", "_law_many"] (spF K 2 f__law_draw) := by
  have sc := sc__law_draw
  refine fn_J T.F__law_draw sc rfl rfl (by decide) fun cdv A outer s H E hr => ?_
  exact (jss_cons (js_if (jt_cmp op_gtA os_ord (je_cell (jc_ix (jc_lo (jl_var (i := 0) rfl (by first | exact Or.inl rfl | exact Or.inr (Or.inl rfl) | exact Or.inr (Or.inr rfl)))) je_int (fun _ _ => rfl))) je_int (nomark _))
    (jss_cons (js_set (i := 3) sc.nd rfl (by first | exact Or.inl rfl | exact Or.inr rfl) (jc_sh (je_bin op_mod os_mod (je_cell (jc_ix (jc_lo (jl_var (i := 0) rfl (by first | exact Or.inl rfl | exact Or.inr (Or.inl rfl) | exact Or.inr (Or.inr rfl)))) je_int (fun _ _ => rfl))) (je_var (i := 1) rfl (by first | exact Or.inl rfl | exact Or.inr (Or.inl rfl) | exact Or.inr (Or.inr rfl))))))
    (jss_cons (js_setIx (jl_var (i := 0) rfl (by first | exact Or.inl rfl | exact Or.inr (Or.inl rfl) | exact Or.inr (Or.inr rfl))) je_int (jc_sh (je_bin op_fdivW os_div (je_cell (jc_ix (jc_lo (jl_var (i := 0) rfl (by first | exact Or.inl rfl | exact Or.inr (Or.inl rfl) | exact Or.inr (Or.inr rfl)))) je_int (fun _ _ => rfl))) (je_var (i := 1) rfl (by first | exact Or.inl rfl | exact Or.inr (Or.inl rfl) | exact Or.inr (Or.inr rfl))))))
    (jss_one (js_ret (jc_sh (je_var (i := 3) rfl (by first | exact Or.inl rfl | exact Or.inr (Or.inl rfl) | exact Or.inr (Or.inr rfl))))))))
    jss_nil)
    (jss_cons (js_setIx (jl_var (i := 0) rfl (by first | exact Or.inl rfl | exact Or.inr (Or.inl rfl) | exact Or.inr (Or.inr rfl))) je_int (jc_sh (je_bin op_addA os_add (je_cell (jc_ix (jc_lo (jl_var (i := 0) rfl (by first | exact Or.inl rfl | exact Or.inr (Or.inl rfl) | exact Or.inr (Or.inr rfl)))) je_int (fun _ _ => rfl))) je_int)))
    (jss_cons (js_set (i := 2) sc.nd rfl (by first | exact Or.inl rfl | exact Or.inr rfl) (jc_sh (je_bin op_mod os_mod (je_bin op_mulA os_mul (je_bin op_addA os_add (je_bin op_addA os_add (je_cell (jc_ix (jc_lo (jl_var (i := 0) rfl (by first | exact Or.inl rfl | exact Or.inr (Or.inl rfl) | exact Or.inr (Or.inr rfl)))) je_int (fun _ _ => rfl))) (je_bin op_mulA os_mul (je_bin op_mulA os_mul je_int (je_cell (jc_ix (jc_lo (jl_var (i := 0) rfl (by first | exact Or.inl rfl | exact Or.inr (Or.inl rfl) | exact Or.inr (Or.inr rfl)))) je_int (fun _ _ => rfl)))) (je_cell (jc_ix (jc_lo (jl_var (i := 0) rfl (by first | exact Or.inl rfl | exact Or.inr (Or.inl rfl) | exact Or.inr (Or.inr rfl)))) je_int (fun _ _ => rfl))))) je_int) je_int) je_int)))
    (jss_one (js_ret (jc_sh (je_bin op_mod os_mod (je_bin op_fdivW os_div (je_bin op_mod os_mod (je_bin op_mulA os_mul (je_var (i := 2) rfl (by first | exact Or.inl rfl | exact Or.inr (Or.inl rfl) | exact Or.inr (Or.inr rfl))) (je_bin op_addA os_add (je_var (i := 2) rfl (by first | exact Or.inl rfl | exact Or.inr (Or.inl rfl) | exact Or.inr (Or.inr rfl))) je_int)) je_int) je_int) (je_var (i := 1) rfl (by first | exact Or.inl rfl | exact Or.inr (Or.inl rfl) | exact Or.inr (Or.inr rfl))))))))))
theorem ok__law_names (T : Tx w K mg) : FnOk P w K mg base CX0 2 T.a__law_names T.d__law_names ["_law_deck_here", "_law_many"] (spF K 2 f__law_names) := by
  have sc := sc__law_names
  refine fn_J T.F__law_names sc rfl rfl (by decide) fun cdv A outer s H E hr => ?_
  exact (jss_cons (js_set (i := 2) sc.nd rfl (by first | exact Or.inl rfl | exact Or.inr rfl) (jc_sh je_str))
    (jss_cons (js_lc (mc := (fun m => mLo (mNew m))) (i := 3) (own := [("_law_k", 8)]) (by decide) rfl sc.nd rfl rfl mc_new (sw_true rfl rfl rfl (by decide +kernel)) (ji_range1 (by rfl) T.z_range (je_bin op_addA os_add je_int (je_cell (jc_call (ok__law_draw T) rfl (hr.mono (by decide)) (by rfl) T.g__law_draw T.F__law_draw.kp T.b__law_draw (ja_c (jc_lo (jl_var (i := 0) rfl (by first | exact Or.inl rfl | exact Or.inr (Or.inl rfl) | exact Or.inr (Or.inr rfl)))) (ja_c (jc_sh je_int) ja_nil)))))) (blkOk_by (N := N__law_names) (sc := defScope s__law_names) (by decide +kernel)) (fun _ _ _ _ _ => (jg_name (i := 8) sc.nd rfl (by first | exact Or.inl rfl | exact Or.inr rfl))) (fun _ _ _ _ _ => jts_nil) (fun _ _ _ _ _ => (je_ix (je_var (i := 2) rfl (by first | exact Or.inl rfl | exact Or.inr (Or.inl rfl) | exact Or.inr (Or.inr rfl))) (je_cell (jc_call (ok__law_draw T) rfl (hr.mono (by decide)) (by rfl) T.g__law_draw T.F__law_draw.kp T.b__law_draw (ja_c (jc_lo (jl_var (i := 0) rfl (by first | exact Or.inl rfl | exact Or.inr (Or.inl rfl) | exact Or.inr (Or.inr rfl)))) (ja_c (jc_sh je_int) ja_nil)))) (fun _ _ => rfl))))
    (jss_cons (js_set (i := 4) sc.nd rfl (by first | exact Or.inl rfl | exact Or.inr rfl) (jc_sh (je_cell (jc_call (ok__law_draw T) rfl (hr.mono (by decide)) (by rfl) T.g__law_draw T.F__law_draw.kp T.b__law_draw (ja_c (jc_lo (jl_var (i := 0) rfl (by first | exact Or.inl rfl | exact Or.inr (Or.inl rfl) | exact Or.inr (Or.inr rfl)))) (ja_c (jc_sh (je_callBC call_lenA cs_len (by rfl) T.z_len (by decide +kernel) (ja_c (jc_lo (jl_var (i := 3) rfl (by first | exact Or.inl rfl | exact Or.inr (Or.inl rfl) | exact Or.inr (Or.inr rfl)))) ja_nil))) ja_nil))))))
    (jss_cons (js_set (i := 5) sc.nd rfl (by first | exact Or.inl rfl | exact Or.inr rfl) (jc_sh (je_cell (jc_call (ok__law_draw T) rfl (hr.mono (by decide)) (by rfl) T.g__law_draw T.F__law_draw.kp T.b__law_draw (ja_c (jc_lo (jl_var (i := 0) rfl (by first | exact Or.inl rfl | exact Or.inr (Or.inl rfl) | exact Or.inr (Or.inr rfl)))) (ja_c (jc_sh je_int) ja_nil))))))
    (jss_cons (js_set (i := 6) sc.nd rfl (by first | exact Or.inl rfl | exact Or.inr rfl) (jc_sh (je_cell (jc_call (ok__law_draw T) rfl (hr.mono (by decide)) (by rfl) T.g__law_draw T.F__law_draw.kp T.b__law_draw (ja_c (jc_lo (jl_var (i := 0) rfl (by first | exact Or.inl rfl | exact Or.inr (Or.inl rfl) | exact Or.inr (Or.inr rfl)))) (ja_c (jc_sh je_int) ja_nil))))))
    (jss_cons (js_set (i := 7) sc.nd rfl (by first | exact Or.inl rfl | exact Or.inr rfl) (jc_lo (jl_new (jo_lst ja_nil))))
    (jss_cons (js_for PassesOwn.never rfl (ji_range1 (by rfl) T.z_range (je_var (i := 1) rfl (by first | exact Or.inl rfl | exact Or.inr (Or.inl rfl) | exact Or.inr (Or.inr rfl)))) (jg_name (i := 8) sc.nd rfl (by first | exact Or.inl rfl | exact Or.inr rfl))
    (jss_cons (js_setIx (jl_var (i := 3) rfl (by first | exact Or.inl rfl | exact Or.inr (Or.inl rfl) | exact Or.inr (Or.inr rfl))) (je_var (i := 4) rfl (by first | exact Or.inl rfl | exact Or.inr (Or.inl rfl) | exact Or.inr (Or.inr rfl))) (jc_sh (je_ix (je_var (i := 2) rfl (by first | exact Or.inl rfl | exact Or.inr (Or.inl rfl) | exact Or.inr (Or.inr rfl))) (je_bin op_mod os_mod (je_bin op_addA os_add (je_var (i := 5) rfl (by first | exact Or.inl rfl | exact Or.inr (Or.inl rfl) | exact Or.inr (Or.inr rfl))) (je_var (i := 8) rfl (by first | exact Or.inl rfl | exact Or.inr (Or.inl rfl) | exact Or.inr (Or.inr rfl)))) je_int) (fun _ _ => rfl))))
    (jss_one (js_app (jl_var (i := 7) rfl (by first | exact Or.inl rfl | exact Or.inr (Or.inl rfl) | exact Or.inr (Or.inr rfl))) (jc_sh (je_bin op_addA os_add (je_bin op_addA os_add je_str (je_m1C PySem.F.slot_str_join PySem.F.type_str_join mt_join ms_join je_str (jc_lo (jl_var (i := 3) rfl (by first | exact Or.inl rfl | exact Or.inr (Or.inl rfl) | exact Or.inr (Or.inr rfl)))))) (je_bin op_mulA os_mul je_str (je_bin op_mulA os_mul (je_bin op_mod os_mod (je_var (i := 8) rfl (by first | exact Or.inl rfl | exact Or.inr (Or.inl rfl) | exact Or.inr (Or.inr rfl))) je_int) (je_var (i := 6) rfl (by first | exact Or.inl rfl | exact Or.inr (Or.inl rfl) | exact Or.inr (Or.inr rfl))))))) (PE0 := (pe_bm PySem.F.plainAttrs_list PySem.F.slot_list_append PySem.F.type_list_append mt_append (jl_var (i := 7) rfl (by first | exact Or.inl rfl | exact Or.inr (Or.inl rfl) | exact Or.inr (Or.inr rfl))) (pa_cons (jc_sh (je_bin op_addA os_add (je_bin op_addA os_add je_str (je_m1C PySem.F.slot_str_join PySem.F.type_str_join mt_join ms_join je_str (jc_lo (jl_var (i := 3) rfl (by first | exact Or.inl rfl | exact Or.inr (Or.inl rfl) | exact Or.inr (Or.inr rfl)))))) (je_bin op_mulA os_mul je_str (je_bin op_mulA os_mul (je_bin op_mod os_mod (je_var (i := 8) rfl (by first | exact Or.inl rfl | exact Or.inr (Or.inl rfl) | exact Or.inr (Or.inr rfl))) je_int) (je_var (i := 6) rfl (by first | exact Or.inl rfl | exact Or.inr (Or.inl rfl) | exact Or.inr (Or.inr rfl))))))) pa_nil)))))))
    (jss_one (js_ret (jc_lo (jl_var (i := 7) rfl (by first | exact Or.inl rfl | exact Or.inr (Or.inl rfl) | exact Or.inr (Or.inr rfl)))))))))))))
theorem ok__law_kit (T : Tx w K mg) : FnOk P w K mg base CX0 3 T.a__law_kit T.d__law_kit ["_law_deck_here"] (spF K 1 f__law_kit) := by
  have sc := sc__law_kit
  refine fn_J T.F__law_kit sc rfl rfl (by decide) fun cdv A outer s H E hr => ?_
  exact (jss_cons (js_set (i := 1) sc.nd rfl (by first | exact Or.inl rfl | exact Or.inr rfl) (jc_lo (jl_cell (jc_call (ok__law_names T) rfl (hr.mono (by decide)) (by rfl) T.g__law_names T.F__law_names.kp T.b__law_names (ja_c (jc_lo (jl_var (i := 0) rfl (by first | exact Or.inl rfl | exact Or.inr (Or.inl rfl) | exact Or.inr (Or.inr rfl)))) (ja_c (jc_sh je_int) ja_nil))))))
    (jss_cons (js_if (jt_cmp (op_eqA hr.units) os_eq (je_cell (jc_call (ok__law_draw T) rfl (hr.mono (by decide)) (by rfl) T.g__law_draw T.F__law_draw.kp T.b__law_draw (ja_c (jc_lo (jl_var (i := 0) rfl (by first | exact Or.inl rfl | exact Or.inr (Or.inl rfl) | exact Or.inr (Or.inr rfl)))) (ja_c (jc_sh je_int) ja_nil)))) je_int (nomark _))
    (jss_one (js_setIx (jl_var (i := 1) rfl (by first | exact Or.inl rfl | exact Or.inr (Or.inl rfl) | exact Or.inr (Or.inr rfl))) je_int (jc_sh (je_bin op_addA os_add (je_cell (jc_ix (jc_lo (jl_var (i := 1) rfl (by first | exact Or.inl rfl | exact Or.inr (Or.inl rfl) | exact Or.inr (Or.inr rfl)))) je_int (fun _ _ => rfl))) je_str))))
    jss_nil)
    (jss_cons (js_set (i := 2) sc.nd rfl (by first | exact Or.inl rfl | exact Or.inr rfl) (jc_sh (je_bin op_addA os_add (je_sliceC (jc_lo (jl_var (i := 1) rfl (by first | exact Or.inl rfl | exact Or.inr (Or.inl rfl) | exact Or.inr (Or.inr rfl)))) jp_none (jp_some je_int)) (je_lst (ja_c (jc_sh (je_bin op_addA os_add (je_bin op_addA os_add (je_cell (jc_ix (jc_lo (jl_var (i := 1) rfl (by first | exact Or.inl rfl | exact Or.inr (Or.inl rfl) | exact Or.inr (Or.inr rfl)))) je_int (fun _ _ => rfl))) je_str) (je_cell (jc_ix (jc_lo (jl_var (i := 1) rfl (by first | exact Or.inl rfl | exact Or.inr (Or.inl rfl) | exact Or.inr (Or.inr rfl)))) je_int (fun _ _ => rfl))))) (ja_c (jc_sh (je_bin op_addA os_add (je_bin op_addA os_add (je_cell (jc_ix (jc_lo (jl_var (i := 1) rfl (by first | exact Or.inl rfl | exact Or.inr (Or.inl rfl) | exact Or.inr (Or.inr rfl)))) je_int (fun _ _ => rfl))) je_str) (je_cell (jc_ix (jc_lo (jl_var (i := 1) rfl (by first | exact Or.inl rfl | exact Or.inr (Or.inl rfl) | exact Or.inr (Or.inr rfl)))) je_int (fun _ _ => rfl))))) (ja_c (jc_sh (je_bin op_addA os_add (je_bin op_addA os_add (je_cell (jc_ix (jc_lo (jl_var (i := 1) rfl (by first | exact Or.inl rfl | exact Or.inr (Or.inl rfl) | exact Or.inr (Or.inr rfl)))) je_int (fun _ _ => rfl))) je_str) (je_cell (jc_ix (jc_lo (jl_var (i := 1) rfl (by first | exact Or.inl rfl | exact Or.inr (Or.inl rfl) | exact Or.inr (Or.inr rfl)))) je_int (fun _ _ => rfl))))) ja_nil)))))))
    (jss_cons (js_set (i := 3) sc.nd rfl (by first | exact Or.inl rfl | exact Or.inr rfl) (jc_sh (je_ix (je_lst (ja_c (jc_sh (je_sliceC (jc_lo (jl_var (i := 1) rfl (by first | exact Or.inl rfl | exact Or.inr (Or.inl rfl) | exact Or.inr (Or.inr rfl)))) (jp_some je_int) (jp_some je_int))) (ja_c (jc_sh (je_lst (ja_c (jc_sh je_str) (ja_c (jc_sh je_str) (ja_c (jc_sh je_str) (ja_c (jc_sh je_str) ja_nil)))))) ja_nil))) (je_cell (jc_call (ok__law_draw T) rfl (hr.mono (by decide)) (by rfl) T.g__law_draw T.F__law_draw.kp T.b__law_draw (ja_c (jc_lo (jl_var (i := 0) rfl (by first | exact Or.inl rfl | exact Or.inr (Or.inl rfl) | exact Or.inr (Or.inr rfl)))) (ja_c (jc_sh je_int) ja_nil)))) (fun _ _ => rfl))))
    (jss_cons (js_set (i := 4) sc.nd rfl (by first | exact Or.inl rfl | exact Or.inr rfl) (jc_lo (jl_disp (.cons je_str (jc_lo (jl_var (i := 0) rfl (by first | exact Or.inl rfl | exact Or.inr (Or.inl rfl) | exact Or.inr (Or.inr rfl)))) (.cons je_str (jc_sh (je_var (i := 2) rfl (by first | exact Or.inl rfl | exact Or.inr (Or.inl rfl) | exact Or.inr (Or.inr rfl)))) (.cons je_str (jc_sh (je_lst (ja_c (jc_sh (je_cell (jc_ix (jc_lo (jl_var (i := 1) rfl (by first | exact Or.inl rfl | exact Or.inr (Or.inl rfl) | exact Or.inr (Or.inr rfl)))) je_int (fun _ _ => rfl)))) (ja_c (jc_sh (je_cell (jc_ix (jc_lo (jl_var (i := 1) rfl (by first | exact Or.inl rfl | exact Or.inr (Or.inl rfl) | exact Or.inr (Or.inr rfl)))) je_int (fun _ _ => rfl)))) (ja_c (jc_sh (je_cell (jc_ix (jc_lo (jl_var (i := 1) rfl (by first | exact Or.inl rfl | exact Or.inr (Or.inl rfl) | exact Or.inr (Or.inr rfl)))) je_int (fun _ _ => rfl)))) ja_nil))))) (.cons je_str (jc_sh (je_var (i := 3) rfl (by first | exact Or.inl rfl | exact Or.inr (Or.inl rfl) | exact Or.inr (Or.inr rfl)))) .nil)))) (by simp) (by decide))))
    (jss_cons (js_upd (jl_var (i := 4) rfl (by first | exact Or.inl rfl | exact Or.inr (Or.inl rfl) | exact Or.inr (Or.inr rfl))) (jl_disp (.cons je_str (jc_sh (je_sliceC (jc_lo (jl_var (i := 1) rfl (by first | exact Or.inl rfl | exact Or.inr (Or.inl rfl) | exact Or.inr (Or.inr rfl)))) (jp_some je_int) (jp_some je_int))) (.cons je_str (jc_lo (jl_new (jo_lst ja_nil))) (.cons je_str (jc_sh je_int) .nil))) (by simp) (by decide)) (PE0 := (pe_bm PySem.F.plainAttrs_dict PySem.F.slot_dict_update PySem.F.type_dict_update mt_upd (jl_var (i := 4) rfl (by first | exact Or.inl rfl | exact Or.inr (Or.inl rfl) | exact Or.inr (Or.inr rfl))) (pa_cons (jl_disp (.cons je_str (jc_sh (je_sliceC (jc_lo (jl_var (i := 1) rfl (by first | exact Or.inl rfl | exact Or.inr (Or.inl rfl) | exact Or.inr (Or.inr rfl)))) (jp_some je_int) (jp_some je_int))) (.cons je_str (jc_lo (jl_new (jo_lst ja_nil))) (.cons je_str (jc_sh je_int) .nil))) (by simp) (by decide)) pa_nil))))
    (jss_one (js_ret (jc_lo (jl_var (i := 4) rfl (by first | exact Or.inl rfl | exact Or.inr (Or.inl rfl) | exact Or.inr (Or.inr rfl))))))))))))
theorem ok__law_some (T : Tx w K mg) : FnOk P w K mg base CX0 2 T.a__law_some T.d__law_some ["_law_kit_here", "_law_things"] (spF K 2 f__law_some) := by
  have sc := sc__law_some
  refine fn_J T.F__law_some sc rfl rfl (by decide) fun cdv A outer s H E hr => ?_
  exact (jss_one (js_ret (jc_sh (je_cell (jc_ix (jc_var (i := 1) rfl (by first | exact Or.inl rfl | exact Or.inr (Or.inl rfl) | exact Or.inr (Or.inr rfl))) (je_cell (jc_call (ok__law_draw T) rfl (hr.mono (by decide)) (by rfl) T.g__law_draw T.F__law_draw.kp T.b__law_draw (ja_c (jc_lo (jl_cell (jc_dget hr.units (jl_var (i := 0) rfl (by first | exact Or.inl rfl | exact Or.inr (Or.inl rfl) | exact Or.inr (Or.inr rfl))) je_str (fun _ _ => rfl)))) (ja_c (jc_sh (je_callBC call_lenA cs_len (by rfl) T.z_len (by decide +kernel) (ja_c (jc_var (i := 1) rfl (by first | exact Or.inl rfl | exact Or.inr (Or.inl rfl) | exact Or.inr (Or.inr rfl))) ja_nil))) ja_nil)))) (fun _ _ => rfl))))))
theorem ok__law_unlike (T : Tx w K mg) : FnOk P w K mg base CX0 2 T.a__law_unlike T.d__law_unlike ["_law_kit_here", "_law_many"] (spF K 2 f__law_unlike) := by
  have sc := sc__law_unlike
  refine fn_J T.F__law_unlike sc rfl rfl (by decide) fun cdv A outer s H E hr => ?_
  exact (jss_cons (js_set (i := 2) sc.nd rfl (by first | exact Or.inl rfl | exact Or.inr rfl) (jc_lo (jl_new (jo_listOf (by rfl) T.z_list (by decide +kernel) (jc_sh (je_cell (jc_dget hr.units (jl_var (i := 0) rfl (by first | exact Or.inl rfl | exact Or.inr (Or.inl rfl) | exact Or.inr (Or.inr rfl))) je_str (fun _ _ => rfl))))))))
    (jss_one (js_ret (jc_sh (je_callTy call_tuple_of cs_tuple (by rfl) T.z_tuple (by decide +kernel) (ja_c (jc_sh (je_fr (jo_comp (own := [("_law_k", 3)]) (by decide) rfl sc.nd (ji_range1 (by rfl) T.z_range (je_var (i := 1) rfl (by first | exact Or.inl rfl | exact Or.inr (Or.inl rfl) | exact Or.inr (Or.inr rfl)))) (blkOk_by (N := N__law_unlike) (sc := defScope s__law_unlike) (by decide +kernel)) (fun _ _ _ _ _ => (jg_name (i := 3) sc.nd rfl (by first | exact Or.inl rfl | exact Or.inr rfl))) (fun _ _ _ _ _ => jts_nil) (fun _ _ _ _ _ => (je_cell (jc_popAt (jl_var (i := 2) rfl (by first | exact Or.inl rfl | exact Or.inr (Or.inl rfl) | exact Or.inr (Or.inr rfl))) (je_cell (jc_call (ok__law_draw T) rfl (hr.mono (by decide)) (by rfl) T.g__law_draw T.F__law_draw.kp T.b__law_draw (ja_c (jc_lo (jl_cell (jc_dget hr.units (jl_var (i := 0) rfl (by first | exact Or.inl rfl | exact Or.inr (Or.inl rfl) | exact Or.inr (Or.inr rfl))) je_str (fun _ _ => rfl)))) (ja_c (jc_sh (je_callBC call_lenA cs_len (by rfl) T.z_len (by decide +kernel) (ja_c (jc_lo (jl_var (i := 2) rfl (by first | exact Or.inl rfl | exact Or.inr (Or.inl rfl) | exact Or.inr (Or.inr rfl)))) ja_nil))) ja_nil)))) (PE0 := (pe_bm PySem.F.plainAttrs_list PySem.F.slot_list_pop PySem.F.type_list_pop mt_popAt (jl_var (i := 2) rfl (by first | exact Or.inl rfl | exact Or.inr (Or.inl rfl) | exact Or.inr (Or.inr rfl))) (pa_cons (je_cell (jc_call (ok__law_draw T) rfl (hr.mono (by decide)) (by rfl) T.g__law_draw T.F__law_draw.kp T.b__law_draw (ja_c (jc_lo (jl_cell (jc_dget hr.units (jl_var (i := 0) rfl (by first | exact Or.inl rfl | exact Or.inr (Or.inl rfl) | exact Or.inr (Or.inr rfl))) je_str (fun _ _ => rfl)))) (ja_c (jc_sh (je_callBC call_lenA cs_len (by rfl) T.z_len (by decide +kernel) (ja_c (jc_lo (jl_var (i := 2) rfl (by first | exact Or.inl rfl | exact Or.inr (Or.inl rfl) | exact Or.inr (Or.inr rfl)))) ja_nil))) ja_nil)))) pa_nil))))))))) ja_nil))))))
theorem ok_G30 (T : Tx w K mg) : ∀ k : Nat, FnOk P w K mg base CX0 (2 + k) T.a__law_row T.d__law_row ["_law_kit_here", "_law_deep", "_law_many", "_law_loops"] (spF K 4 (f_G30 k 0)) ∧ FnOk P w K mg base CX0 (2 + k) T.a__law_word T.d__law_word ["_law_kit_here", "_law_deep", "_law_loops", "_law_way"] (spF K 4 (f_G30 k 1))
  | 0 => ⟨fn_bad rfl, fn_bad rfl⟩
  | k + 1 => by
    have ih := ok_G30 T k
    exact ⟨(by
      have sc := sc__law_row
      refine fn_J T.F__law_row sc rfl rfl (by decide) fun cdv A outer s H E hr => ?_
      exact (jss_cons (js_set (i := 4) sc.nd rfl (by first | exact Or.inl rfl | exact Or.inr rfl) (jc_sh (je_tup ja_nil)))
    (jss_cons (js_for PassesOwn.never rfl (ji_range1 (by rfl) T.z_range (je_var (i := 2) rfl (by first | exact Or.inl rfl | exact Or.inr (Or.inl rfl) | exact Or.inr (Or.inr rfl)))) (jg_name (i := 5) sc.nd rfl (by first | exact Or.inl rfl | exact Or.inr rfl))
    (jss_one (js_if (jt_cmp op_gtA os_ord (je_cell (jc_dget hr.units (jl_var (i := 0) rfl (by first | exact Or.inl rfl | exact Or.inr (Or.inl rfl) | exact Or.inr (Or.inr rfl))) je_str (fun _ _ => rfl))) je_int (nomark _))
    (jss_cons (js_dput hr.units (jl_var (i := 0) rfl (by first | exact Or.inl rfl | exact Or.inr (Or.inl rfl) | exact Or.inr (Or.inr rfl))) je_str (jc_sh (je_bin op_sub os_sub (je_cell (jc_dget hr.units (jl_var (i := 0) rfl (by first | exact Or.inl rfl | exact Or.inr (Or.inl rfl) | exact Or.inr (Or.inr rfl))) je_str (fun _ _ => rfl))) je_int)))
    (jss_one (js_set (i := 4) sc.nd rfl (by first | exact Or.inl rfl | exact Or.inr rfl) (jc_sh (je_bin op_addA os_add (je_var (i := 4) rfl (by first | exact Or.inl rfl | exact Or.inr (Or.inl rfl) | exact Or.inr (Or.inr rfl))) (je_tup (ja_c (jc_sh (je_cell (jc_call ih.2 rfl hr (by rfl) T.g__law_word T.F__law_word.kp T.b__law_word (ja_c (jc_lo (jl_var (i := 0) rfl (by first | exact Or.inl rfl | exact Or.inr (Or.inl rfl) | exact Or.inr (Or.inr rfl)))) (ja_c (jc_sh (je_var (i := 1) rfl (by first | exact Or.inl rfl | exact Or.inr (Or.inl rfl) | exact Or.inr (Or.inr rfl)))) (ja_c (jc_sh (je_var (i := 3) rfl (by first | exact Or.inl rfl | exact Or.inr (Or.inl rfl) | exact Or.inr (Or.inr rfl)))) (ja_c (jc_sh (je_cell (jc_call (ok__law_draw T) rfl (hr.mono (Nat.le_trans (m := 2) (by decide) (Nat.le_add_right _ _))) (by rfl) T.g__law_draw T.F__law_draw.kp T.b__law_draw (ja_c (jc_lo (jl_cell (jc_dget hr.units (jl_var (i := 0) rfl (by first | exact Or.inl rfl | exact Or.inr (Or.inl rfl) | exact Or.inr (Or.inr rfl))) je_str (fun _ _ => rfl)))) (ja_c (jc_sh je_int) ja_nil))))) ja_nil))))))) ja_nil)))))))
    jss_nil)))
    (jss_one (js_ret (jc_sh (je_var (i := 4) rfl (by first | exact Or.inl rfl | exact Or.inr (Or.inl rfl) | exact Or.inr (Or.inr rfl))))))))), (by
      have sc := sc__law_word
      refine fn_J T.F__law_word sc rfl rfl (by decide) fun cdv A outer s H E hr => ?_
      exact (jss_cons (js_asg (jc_sh (je_fr (jo_comp (own := [("_law_k", 9)]) (by decide) rfl sc.nd (ji_range1 (by rfl) T.z_range je_int) (blkOk_by (N := N__law_word) (sc := defScope s__law_word) (by decide +kernel)) (fun _ _ _ _ _ => (jg_name (i := 9) sc.nd rfl (by first | exact Or.inl rfl | exact Or.inr rfl))) (fun _ _ _ _ _ => jts_nil) (fun _ _ _ _ _ => (je_cell (jc_call (ok__law_some T) rfl (hr.mono (Nat.le_trans (m := 2) (by decide) (Nat.le_add_right _ _))) (by rfl) T.g__law_some T.F__law_some.kp T.b__law_some (ja_c (jc_lo (jl_var (i := 0) rfl (by first | exact Or.inl rfl | exact Or.inr (Or.inl rfl) | exact Or.inr (Or.inr rfl)))) (ja_c (jc_sh (je_cell (jc_dget hr.units (jl_var (i := 0) rfl (by first | exact Or.inl rfl | exact Or.inr (Or.inl rfl) | exact Or.inr (Or.inr rfl))) je_str (fun _ _ => rfl)))) ja_nil)))))))) (jg_lst rfl (jgs_cons (jg_name (i := 4) sc.nd rfl (by first | exact Or.inl rfl | exact Or.inr rfl)) (jgs_cons (jg_name (i := 5) sc.nd rfl (by first | exact Or.inl rfl | exact Or.inr rfl)) (jgs_cons (jg_name (i := 6) sc.nd rfl (by first | exact Or.inl rfl | exact Or.inr rfl)) jgs_nil)))))
    (jss_cons (js_if (PW.pt (jw_or (jt_cmp op_ltA os_ord (je_var (i := 3) rfl (by first | exact Or.inl rfl | exact Or.inr (Or.inl rfl) | exact Or.inr (Or.inr rfl))) je_int (nomark _)) (jw_or1 (PW.pt (jw_and (jt_cmp op_gtA os_ord (je_var (i := 3) rfl (by first | exact Or.inl rfl | exact Or.inr (Or.inl rfl) | exact Or.inr (Or.inr rfl))) je_int (nomark _)) (jw_and1 (jt_cmp op_gtA os_ord (je_var (i := 1) rfl (by first | exact Or.inl rfl | exact Or.inr (Or.inl rfl) | exact Or.inr (Or.inr rfl))) je_int (nomark _))))))))
    (jss_one (js_ret (jc_sh (je_if (jt_cmp op_ltA os_ord (je_var (i := 3) rfl (by first | exact Or.inl rfl | exact Or.inr (Or.inl rfl) | exact Or.inr (Or.inr rfl))) je_int (nomark _)) (je_tup (ja_c (jc_sh je_str) (ja_c (jc_sh (je_var (i := 4) rfl (by first | exact Or.inl rfl | exact Or.inr (Or.inl rfl) | exact Or.inr (Or.inr rfl)))) (ja_c (jc_sh (je_cell (jc_call (ok__law_some T) rfl (hr.mono (Nat.le_trans (m := 2) (by decide) (Nat.le_add_right _ _))) (by rfl) T.g__law_some T.F__law_some.kp T.b__law_some (ja_c (jc_lo (jl_var (i := 0) rfl (by first | exact Or.inl rfl | exact Or.inr (Or.inl rfl) | exact Or.inr (Or.inr rfl)))) (ja_c (jc_sh (je_cell (jc_dget hr.units (jl_var (i := 0) rfl (by first | exact Or.inl rfl | exact Or.inr (Or.inl rfl) | exact Or.inr (Or.inr rfl))) je_str (fun _ _ => rfl)))) ja_nil))))) ja_nil)))) (je_tup (ja_c (jc_sh je_str) (ja_c (jc_sh (je_var (i := 4) rfl (by first | exact Or.inl rfl | exact Or.inr (Or.inl rfl) | exact Or.inr (Or.inr rfl)))) ja_nil)))))))
    jss_nil)
    (jss_cons (js_if (jt_cmp op_ltA os_ord (je_var (i := 3) rfl (by first | exact Or.inl rfl | exact Or.inr (Or.inl rfl) | exact Or.inr (Or.inr rfl))) je_int (nomark _))
    (jss_cons (js_set (i := 7) sc.nd rfl (by first | exact Or.inl rfl | exact Or.inr rfl) (jc_sh (je_lst (ja_c (jc_sh (je_tup (ja_c (jc_sh je_str) (ja_c (jc_sh (je_var (i := 4) rfl (by first | exact Or.inl rfl | exact Or.inr (Or.inl rfl) | exact Or.inr (Or.inr rfl)))) (ja_c (jc_sh (je_var (i := 5) rfl (by first | exact Or.inl rfl | exact Or.inr (Or.inl rfl) | exact Or.inr (Or.inr rfl)))) ja_nil))))) (ja_c (jc_sh (je_tup (ja_c (jc_sh je_str) (ja_c (jc_sh (je_var (i := 4) rfl (by first | exact Or.inl rfl | exact Or.inr (Or.inl rfl) | exact Or.inr (Or.inr rfl)))) (ja_c (jc_sh (je_var (i := 5) rfl (by first | exact Or.inl rfl | exact Or.inr (Or.inl rfl) | exact Or.inr (Or.inr rfl)))) (ja_c (jc_sh (je_var (i := 6) rfl (by first | exact Or.inl rfl | exact Or.inr (Or.inl rfl) | exact Or.inr (Or.inr rfl)))) ja_nil)))))) (ja_c (jc_sh (je_tup (ja_c (jc_sh je_str) (ja_c (jc_sh (je_var (i := 4) rfl (by first | exact Or.inl rfl | exact Or.inr (Or.inl rfl) | exact Or.inr (Or.inr rfl)))) (ja_c (jc_sh (je_var (i := 5) rfl (by first | exact Or.inl rfl | exact Or.inr (Or.inl rfl) | exact Or.inr (Or.inr rfl)))) ja_nil))))) (ja_c (jc_sh (je_tup (ja_c (jc_sh je_str) (ja_c (jc_sh (je_var (i := 4) rfl (by first | exact Or.inl rfl | exact Or.inr (Or.inl rfl) | exact Or.inr (Or.inr rfl)))) ja_nil)))) (ja_c (jc_sh (je_tup (ja_c (jc_sh je_str) (ja_c (jc_sh (je_var (i := 4) rfl (by first | exact Or.inl rfl | exact Or.inr (Or.inl rfl) | exact Or.inr (Or.inr rfl)))) ja_nil)))) ja_nil))))))))
    (jss_one (js_ret (jc_sh (je_ix (je_bin op_addA os_add (je_var (i := 7) rfl (by first | exact Or.inl rfl | exact Or.inr (Or.inl rfl) | exact Or.inr (Or.inr rfl))) (je_lst (ja_c (jc_sh (je_tup (ja_c (jc_sh je_str) (ja_c (jc_sh (je_var (i := 4) rfl (by first | exact Or.inl rfl | exact Or.inr (Or.inl rfl) | exact Or.inr (Or.inr rfl)))) (ja_c (jc_sh (je_ix (je_lst (ja_c (jc_sh (je_cell (jc_call (ok__law_draw T) rfl (hr.mono (Nat.le_trans (m := 2) (by decide) (Nat.le_add_right _ _))) (by rfl) T.g__law_draw T.F__law_draw.kp T.b__law_draw (ja_c (jc_lo (jl_cell (jc_dget hr.units (jl_var (i := 0) rfl (by first | exact Or.inl rfl | exact Or.inr (Or.inl rfl) | exact Or.inr (Or.inr rfl))) je_str (fun _ _ => rfl)))) (ja_c (jc_sh je_int) ja_nil))))) (ja_c (jc_sh je_int) (ja_c (jc_sh je_int) ja_nil)))) (je_cell (jc_call (ok__law_draw T) rfl (hr.mono (Nat.le_trans (m := 2) (by decide) (Nat.le_add_right _ _))) (by rfl) T.g__law_draw T.F__law_draw.kp T.b__law_draw (ja_c (jc_lo (jl_cell (jc_dget hr.units (jl_var (i := 0) rfl (by first | exact Or.inl rfl | exact Or.inr (Or.inl rfl) | exact Or.inr (Or.inr rfl))) je_str (fun _ _ => rfl)))) (ja_c (jc_sh je_int) ja_nil)))) (fun _ _ => rfl))) ja_nil))))) ja_nil))) (je_bin op_sub os_sub (je_var (i := 3) rfl (by first | exact Or.inl rfl | exact Or.inr (Or.inl rfl) | exact Or.inr (Or.inr rfl))) je_int) (fun _ _ => rfl))))))
    jss_nil)
    (jss_cons (js_if (jt_cmp (op_eqA hr.units) os_eq (je_var (i := 3) rfl (by first | exact Or.inl rfl | exact Or.inr (Or.inl rfl) | exact Or.inr (Or.inr rfl))) je_int (nomark _))
    (jss_one (js_ret (jc_sh (je_tup (ja_c (jc_sh je_str) (ja_c (jc_sh (je_cell (jc_call (ok__law_some T) rfl (hr.mono (Nat.le_trans (m := 2) (by decide) (Nat.le_add_right _ _))) (by rfl) T.g__law_some T.F__law_some.kp T.b__law_some (ja_c (jc_lo (jl_var (i := 0) rfl (by first | exact Or.inl rfl | exact Or.inr (Or.inl rfl) | exact Or.inr (Or.inr rfl)))) (ja_c (jc_sh (je_cell (jc_dget hr.units (jl_var (i := 0) rfl (by first | exact Or.inl rfl | exact Or.inr (Or.inl rfl) | exact Or.inr (Or.inr rfl))) je_str (fun _ _ => rfl)))) ja_nil))))) ja_nil))))))
    jss_nil)
    (jss_cons (js_if (jt_cmp (op_eqA hr.units) os_eq (je_var (i := 3) rfl (by first | exact Or.inl rfl | exact Or.inr (Or.inl rfl) | exact Or.inr (Or.inr rfl))) je_int (nomark _))
    (jss_one (js_ret (jc_sh (je_tup (ja_c (jc_sh je_str) (ja_c (jc_sh (je_cell (jc_call (ok__law_unlike T) rfl (hr.mono (Nat.le_trans (m := 2) (by decide) (Nat.le_add_right _ _))) (by rfl) T.g__law_unlike T.F__law_unlike.kp T.b__law_unlike (ja_c (jc_lo (jl_var (i := 0) rfl (by first | exact Or.inl rfl | exact Or.inr (Or.inl rfl) | exact Or.inr (Or.inr rfl)))) (ja_c (jc_sh (je_bin op_addA os_add je_int (je_cell (jc_call (ok__law_draw T) rfl (hr.mono (Nat.le_trans (m := 2) (by decide) (Nat.le_add_right _ _))) (by rfl) T.g__law_draw T.F__law_draw.kp T.b__law_draw (ja_c (jc_lo (jl_cell (jc_dget hr.units (jl_var (i := 0) rfl (by first | exact Or.inl rfl | exact Or.inr (Or.inl rfl) | exact Or.inr (Or.inr rfl))) je_str (fun _ _ => rfl)))) (ja_c (jc_sh je_int) ja_nil)))))) ja_nil))))) ja_nil))))))
    jss_nil)
    (jss_cons (js_if (jt_cmp (op_eqA hr.units) os_eq (je_var (i := 3) rfl (by first | exact Or.inl rfl | exact Or.inr (Or.inl rfl) | exact Or.inr (Or.inr rfl))) je_int (nomark _))
    (jss_one (js_ret (jc_sh (je_tup (ja_c (jc_sh je_str) (ja_c (jc_sh (je_cell (jc_call (ok__law_some T) rfl (hr.mono (Nat.le_trans (m := 2) (by decide) (Nat.le_add_right _ _))) (by rfl) T.g__law_some T.F__law_some.kp T.b__law_some (ja_c (jc_lo (jl_var (i := 0) rfl (by first | exact Or.inl rfl | exact Or.inr (Or.inl rfl) | exact Or.inr (Or.inr rfl)))) (ja_c (jc_sh (je_cell (jc_dget hr.units (jl_var (i := 0) rfl (by first | exact Or.inl rfl | exact Or.inr (Or.inl rfl) | exact Or.inr (Or.inr rfl))) je_str (fun _ _ => rfl)))) ja_nil))))) ja_nil))))))
    jss_nil)
    (jss_cons (js_if (PW.pt (jw_and (jt_cmp (op_eqA hr.units) os_eq (je_var (i := 3) rfl (by first | exact Or.inl rfl | exact Or.inr (Or.inl rfl) | exact Or.inr (Or.inr rfl))) je_int (nomark _)) (jw_and1 (jt_cmp (op_eqA hr.units) os_eq (je_cell (jc_call (ok__law_draw T) rfl (hr.mono (Nat.le_trans (m := 2) (by decide) (Nat.le_add_right _ _))) (by rfl) T.g__law_draw T.F__law_draw.kp T.b__law_draw (ja_c (jc_lo (jl_cell (jc_dget hr.units (jl_var (i := 0) rfl (by first | exact Or.inl rfl | exact Or.inr (Or.inl rfl) | exact Or.inr (Or.inr rfl))) je_str (fun _ _ => rfl)))) (ja_c (jc_sh je_int) ja_nil)))) je_int (nomark _)))))
    (jss_one (js_ret (jc_sh (je_ix (je_lst (ja_c (jc_sh (je_tup (ja_c (jc_sh je_str) (ja_c (jc_sh (je_cell (jc_call (ok__law_some T) rfl (hr.mono (Nat.le_trans (m := 2) (by decide) (Nat.le_add_right _ _))) (by rfl) T.g__law_some T.F__law_some.kp T.b__law_some (ja_c (jc_lo (jl_var (i := 0) rfl (by first | exact Or.inl rfl | exact Or.inr (Or.inl rfl) | exact Or.inr (Or.inr rfl)))) (ja_c (jc_sh (je_cell (jc_dget hr.units (jl_var (i := 0) rfl (by first | exact Or.inl rfl | exact Or.inr (Or.inl rfl) | exact Or.inr (Or.inr rfl))) je_str (fun _ _ => rfl)))) ja_nil))))) ja_nil)))) (ja_c (jc_sh (je_tup (ja_c (jc_sh je_str) ja_nil))) ja_nil))) (je_cell (jc_call (ok__law_draw T) rfl (hr.mono (Nat.le_trans (m := 2) (by decide) (Nat.le_add_right _ _))) (by rfl) T.g__law_draw T.F__law_draw.kp T.b__law_draw (ja_c (jc_lo (jl_cell (jc_dget hr.units (jl_var (i := 0) rfl (by first | exact Or.inl rfl | exact Or.inr (Or.inl rfl) | exact Or.inr (Or.inr rfl))) je_str (fun _ _ => rfl)))) (ja_c (jc_sh je_int) ja_nil)))) (fun _ _ => rfl)))))
    jss_nil)
    (jss_cons (js_if (PW.pt (jw_and (jt_cmp (op_eqA hr.units) os_eq (je_var (i := 3) rfl (by first | exact Or.inl rfl | exact Or.inr (Or.inl rfl) | exact Or.inr (Or.inr rfl))) je_int (nomark _)) (jw_and1 (jt_cmp op_gtA os_ord (je_var (i := 2) rfl (by first | exact Or.inl rfl | exact Or.inr (Or.inl rfl) | exact Or.inr (Or.inr rfl))) je_int (nomark _)))))
    (jss_one (js_ret (jc_sh (je_tup (ja_c (jc_sh je_str) (ja_c (jc_sh (je_bin op_addA os_add je_int (je_cell (jc_call (ok__law_draw T) rfl (hr.mono (Nat.le_trans (m := 2) (by decide) (Nat.le_add_right _ _))) (by rfl) T.g__law_draw T.F__law_draw.kp T.b__law_draw (ja_c (jc_lo (jl_cell (jc_dget hr.units (jl_var (i := 0) rfl (by first | exact Or.inl rfl | exact Or.inr (Or.inl rfl) | exact Or.inr (Or.inr rfl))) je_str (fun _ _ => rfl)))) (ja_c (jc_sh (je_var (i := 2) rfl (by first | exact Or.inl rfl | exact Or.inr (Or.inl rfl) | exact Or.inr (Or.inr rfl)))) ja_nil)))))) ja_nil))))))
    jss_nil)
    (jss_cons (js_if (PW.pt (jw_and (jt_cmp op_ltA os_ord (je_var (i := 3) rfl (by first | exact Or.inl rfl | exact Or.inr (Or.inl rfl) | exact Or.inr (Or.inr rfl))) je_int (nomark _)) (jw_and1 (jt_cmpC (op_neA hr.units) os_ne (jc_lo (jl_cell (jc_dget hr.units (jl_var (i := 0) rfl (by first | exact Or.inl rfl | exact Or.inr (Or.inl rfl) | exact Or.inr (Or.inr rfl))) je_str (fun _ _ => rfl)))) (jc_sh (je_lst ja_nil)) (nomark _)))))
    (jss_cons (js_asg (jc_sh (je_cell (jc_call (ok__law_some T) rfl (hr.mono (Nat.le_trans (m := 2) (by decide) (Nat.le_add_right _ _))) (by rfl) T.g__law_some T.F__law_some.kp T.b__law_some (ja_c (jc_lo (jl_var (i := 0) rfl (by first | exact Or.inl rfl | exact Or.inr (Or.inl rfl) | exact Or.inr (Or.inr rfl)))) (ja_c (jc_lo (jl_cell (jc_dget hr.units (jl_var (i := 0) rfl (by first | exact Or.inl rfl | exact Or.inr (Or.inl rfl) | exact Or.inr (Or.inr rfl))) je_str (fun _ _ => rfl)))) ja_nil))))) (jg_tup rfl (jgs_cons (jg_name (i := 10) sc.nd rfl (by first | exact Or.inl rfl | exact Or.inr rfl)) (jgs_cons (jg_name (i := 11) sc.nd rfl (by first | exact Or.inl rfl | exact Or.inr rfl)) (jgs_cons (jg_name (i := 12) sc.nd rfl (by first | exact Or.inl rfl | exact Or.inr rfl)) jgs_nil)))))
    (jss_one (js_ret (jc_sh (je_tup (ja_c (jc_sh je_str) (ja_c (jc_sh (je_var (i := 10) rfl (by first | exact Or.inl rfl | exact Or.inr (Or.inl rfl) | exact Or.inr (Or.inr rfl)))) (ja_c (jc_sh (je_cell (jc_call (ok__law_unlike T) rfl (hr.mono (Nat.le_trans (m := 2) (by decide) (Nat.le_add_right _ _))) (by rfl) T.g__law_unlike T.F__law_unlike.kp T.b__law_unlike (ja_c (jc_lo (jl_var (i := 0) rfl (by first | exact Or.inl rfl | exact Or.inr (Or.inl rfl) | exact Or.inr (Or.inr rfl)))) (ja_c (jc_sh (je_var (i := 11) rfl (by first | exact Or.inl rfl | exact Or.inr (Or.inl rfl) | exact Or.inr (Or.inr rfl)))) ja_nil))))) (ja_c (jc_sh (je_cell (jc_call (ok__law_unlike T) rfl (hr.mono (Nat.le_trans (m := 2) (by decide) (Nat.le_add_right _ _))) (by rfl) T.g__law_unlike T.F__law_unlike.kp T.b__law_unlike (ja_c (jc_lo (jl_var (i := 0) rfl (by first | exact Or.inl rfl | exact Or.inr (Or.inl rfl) | exact Or.inr (Or.inr rfl)))) (ja_c (jc_sh (je_var (i := 12) rfl (by first | exact Or.inl rfl | exact Or.inr (Or.inl rfl) | exact Or.inr (Or.inr rfl)))) ja_nil))))) ja_nil)))))))))
    jss_nil)
    (jss_cons (js_if (jt_cmp (op_eqA hr.units) os_eq (je_var (i := 3) rfl (by first | exact Or.inl rfl | exact Or.inr (Or.inl rfl) | exact Or.inr (Or.inr rfl))) je_int (nomark _))
    (jss_cons (js_lc (mc := (fun m => mSh (mFr m))) (i := 8) (own := [("_law_k", 9)]) (by decide) rfl sc.nd rfl rfl mc_fr (sw_true rfl rfl rfl (by decide +kernel)) (ji_range1 (by rfl) T.z_range (je_bin op_addA os_add je_int (je_cell (jc_call (ok__law_draw T) rfl (hr.mono (Nat.le_trans (m := 2) (by decide) (Nat.le_add_right _ _))) (by rfl) T.g__law_draw T.F__law_draw.kp T.b__law_draw (ja_c (jc_lo (jl_cell (jc_dget hr.units (jl_var (i := 0) rfl (by first | exact Or.inl rfl | exact Or.inr (Or.inl rfl) | exact Or.inr (Or.inr rfl))) je_str (fun _ _ => rfl)))) (ja_c (jc_sh je_int) ja_nil)))))) (blkOk_by (N := N__law_word) (sc := defScope s__law_word) (by decide +kernel)) (fun _ _ _ _ _ => (jg_name (i := 9) sc.nd rfl (by first | exact Or.inl rfl | exact Or.inr rfl))) (fun _ _ _ _ _ => jts_nil) (fun _ _ _ _ _ => (je_cell (jc_call ih.1 rfl hr (by rfl) T.g__law_row T.F__law_row.kp T.b__law_row (ja_c (jc_lo (jl_var (i := 0) rfl (by first | exact Or.inl rfl | exact Or.inr (Or.inl rfl) | exact Or.inr (Or.inr rfl)))) (ja_c (jc_sh (je_bin op_addA os_add (je_var (i := 1) rfl (by first | exact Or.inl rfl | exact Or.inr (Or.inl rfl) | exact Or.inr (Or.inr rfl))) je_int)) (ja_c (jc_sh (je_cell (jc_call (ok__law_draw T) rfl (hr.mono (Nat.le_trans (m := 2) (by decide) (Nat.le_add_right _ _))) (by rfl) T.g__law_draw T.F__law_draw.kp T.b__law_draw (ja_c (jc_lo (jl_cell (jc_dget hr.units (jl_var (i := 0) rfl (by first | exact Or.inl rfl | exact Or.inr (Or.inl rfl) | exact Or.inr (Or.inr rfl))) je_str (fun _ _ => rfl)))) (ja_c (jc_sh je_int) ja_nil))))) (ja_c (jc_sh (je_var (i := 2) rfl (by first | exact Or.inl rfl | exact Or.inr (Or.inl rfl) | exact Or.inr (Or.inr rfl)))) ja_nil))))))))
    (jss_one (js_ret (jc_sh (je_tup (ja_c (jc_sh je_str) (ja_c (jc_sh (je_callTy call_tuple_of cs_tuple (by rfl) T.z_tuple (by decide +kernel) (ja_c (jc_sh (je_var (i := 8) rfl (by first | exact Or.inl rfl | exact Or.inr (Or.inl rfl) | exact Or.inr (Or.inr rfl)))) ja_nil))) ja_nil)))))))
    jss_nil)
    (jss_one (js_ret (jc_sh (je_tup (ja_c (jc_sh je_str) (ja_c (jc_sh (je_cell (jc_call ih.1 rfl hr (by rfl) T.g__law_row T.F__law_row.kp T.b__law_row (ja_c (jc_lo (jl_var (i := 0) rfl (by first | exact Or.inl rfl | exact Or.inr (Or.inl rfl) | exact Or.inr (Or.inr rfl)))) (ja_c (jc_sh (je_bin op_addA os_add (je_var (i := 1) rfl (by first | exact Or.inl rfl | exact Or.inr (Or.inl rfl) | exact Or.inr (Or.inr rfl))) je_int)) (ja_c (jc_sh (je_bin op_addA os_add je_int (je_cell (jc_call (ok__law_draw T) rfl (hr.mono (Nat.le_trans (m := 2) (by decide) (Nat.le_add_right _ _))) (by rfl) T.g__law_draw T.F__law_draw.kp T.b__law_draw (ja_c (jc_lo (jl_cell (jc_dget hr.units (jl_var (i := 0) rfl (by first | exact Or.inl rfl | exact Or.inr (Or.inl rfl) | exact Or.inr (Or.inr rfl))) je_str (fun _ _ => rfl)))) (ja_c (jc_sh je_int) ja_nil)))))) (ja_c (jc_sh (je_bin op_addA os_add (je_var (i := 2) rfl (by first | exact Or.inl rfl | exact Or.inr (Or.inl rfl) | exact Or.inr (Or.inr rfl))) je_int)) ja_nil))))))) ja_nil)))))))))))))))))⟩
theorem ok__law_program (T : Tx w K mg) : FnOk P w K mg base CX0 17 T.a__law_program T.d__law_program ["_law_kit_here", "_law_most"] (spF K 2 f__law_program) := by
  have sc := sc__law_program
  refine fn_J T.F__law_program sc rfl rfl (by decide) fun cdv A outer s H E hr => ?_
  exact (jss_cons (js_set (i := 2) sc.nd rfl (by first | exact Or.inl rfl | exact Or.inr rfl) (jc_lo (jl_new (jo_lst ja_nil))))
    (jss_cons (js_for PassesOwn.never rfl (ji_any (je_slice (je_cell (jc_dget hr.units (jl_var (i := 0) rfl (by first | exact Or.inl rfl | exact Or.inr (Or.inl rfl) | exact Or.inr (Or.inr rfl))) je_str (fun _ _ => rfl))) jp_none (jp_some (je_cell (jc_call (ok__law_draw T) rfl (hr.mono (by decide)) (by rfl) T.g__law_draw T.F__law_draw.kp T.b__law_draw (ja_c (jc_lo (jl_cell (jc_dget hr.units (jl_var (i := 0) rfl (by first | exact Or.inl rfl | exact Or.inr (Or.inl rfl) | exact Or.inr (Or.inr rfl))) je_str (fun _ _ => rfl)))) (ja_c (jc_sh (je_bin op_addA os_add (je_var (i := 1) rfl (by first | exact Or.inl rfl | exact Or.inr (Or.inl rfl) | exact Or.inr (Or.inr rfl))) je_int)) ja_nil))))))) (jg_name (i := 3) sc.nd rfl (by first | exact Or.inl rfl | exact Or.inr rfl))
    (jss_cons (js_set (i := 4) sc.nd rfl (by first | exact Or.inl rfl | exact Or.inr rfl) (jc_sh (je_bin op_addA os_add je_int (je_bin op_mulA os_mul je_int (je_callTy call_int1 cs_int (by rfl) T.z_int (by decide +kernel) (ja_c (jc_sh (je_cmp (op_eqA hr.units) os_eq (je_cell (jc_call (ok__law_draw T) rfl (hr.mono (by decide)) (by rfl) T.g__law_draw T.F__law_draw.kp T.b__law_draw (ja_c (jc_lo (jl_cell (jc_dget hr.units (jl_var (i := 0) rfl (by first | exact Or.inl rfl | exact Or.inr (Or.inl rfl) | exact Or.inr (Or.inr rfl))) je_str (fun _ _ => rfl)))) (ja_c (jc_sh je_int) ja_nil)))) je_int (nomark _))) ja_nil))))))
    (jss_cons (js_set (i := 5) sc.nd rfl (by first | exact Or.inl rfl | exact Or.inr rfl) (jc_sh (je_cell (jc_call (ok__law_draw T) rfl (hr.mono (by decide)) (by rfl) T.g__law_draw T.F__law_draw.kp T.b__law_draw (ja_c (jc_lo (jl_cell (jc_dget hr.units (jl_var (i := 0) rfl (by first | exact Or.inl rfl | exact Or.inr (Or.inl rfl) | exact Or.inr (Or.inr rfl))) je_str (fun _ _ => rfl)))) (ja_c (jc_sh (je_var (i := 4) rfl (by first | exact Or.inl rfl | exact Or.inr (Or.inl rfl) | exact Or.inr (Or.inr rfl)))) ja_nil))))))
    (jss_cons (js_set (i := 6) sc.nd rfl (by first | exact Or.inl rfl | exact Or.inr rfl) (jc_sh (je_cell (jc_call (ok__law_draw T) rfl (hr.mono (by decide)) (by rfl) T.g__law_draw T.F__law_draw.kp T.b__law_draw (ja_c (jc_lo (jl_cell (jc_dget hr.units (jl_var (i := 0) rfl (by first | exact Or.inl rfl | exact Or.inr (Or.inl rfl) | exact Or.inr (Or.inr rfl))) je_str (fun _ _ => rfl)))) (ja_c (jc_sh (je_var (i := 4) rfl (by first | exact Or.inl rfl | exact Or.inr (Or.inl rfl) | exact Or.inr (Or.inr rfl)))) ja_nil))))))
    (jss_cons (js_set (i := 7) sc.nd rfl (by first | exact Or.inl rfl | exact Or.inr rfl) (jc_sh (je_cell (jc_call ((ok_G30 T 14).1) rfl (hr.mono (by decide)) (by rfl) T.g__law_row T.F__law_row.kp T.b__law_row (ja_c (jc_lo (jl_var (i := 0) rfl (by first | exact Or.inl rfl | exact Or.inr (Or.inl rfl) | exact Or.inr (Or.inr rfl)))) (ja_c (jc_sh je_int) (ja_c (jc_sh (je_bin op_addA os_add je_int (je_cell (jc_call (ok__law_draw T) rfl (hr.mono (by decide)) (by rfl) T.g__law_draw T.F__law_draw.kp T.b__law_draw (ja_c (jc_lo (jl_cell (jc_dget hr.units (jl_var (i := 0) rfl (by first | exact Or.inl rfl | exact Or.inr (Or.inl rfl) | exact Or.inr (Or.inr rfl))) je_str (fun _ _ => rfl)))) (ja_c (jc_sh je_int) ja_nil)))))) (ja_c (jc_sh je_int) ja_nil))))))))
    (jss_cons (js_app (jl_var (i := 2) rfl (by first | exact Or.inl rfl | exact Or.inr (Or.inl rfl) | exact Or.inr (Or.inr rfl))) (jc_sh (je_tup (ja_c (jc_sh (je_var (i := 3) rfl (by first | exact Or.inl rfl | exact Or.inr (Or.inl rfl) | exact Or.inr (Or.inr rfl)))) (ja_c (jc_sh (je_cell (jc_call (ok__law_unlike T) rfl (hr.mono (by decide)) (by rfl) T.g__law_unlike T.F__law_unlike.kp T.b__law_unlike (ja_c (jc_lo (jl_var (i := 0) rfl (by first | exact Or.inl rfl | exact Or.inr (Or.inl rfl) | exact Or.inr (Or.inr rfl)))) (ja_c (jc_sh (je_var (i := 5) rfl (by first | exact Or.inl rfl | exact Or.inr (Or.inl rfl) | exact Or.inr (Or.inr rfl)))) ja_nil))))) (ja_c (jc_sh (je_cell (jc_call (ok__law_unlike T) rfl (hr.mono (by decide)) (by rfl) T.g__law_unlike T.F__law_unlike.kp T.b__law_unlike (ja_c (jc_lo (jl_var (i := 0) rfl (by first | exact Or.inl rfl | exact Or.inr (Or.inl rfl) | exact Or.inr (Or.inr rfl)))) (ja_c (jc_sh (je_var (i := 6) rfl (by first | exact Or.inl rfl | exact Or.inr (Or.inl rfl) | exact Or.inr (Or.inr rfl)))) ja_nil))))) (ja_c (jc_sh (je_var (i := 7) rfl (by first | exact Or.inl rfl | exact Or.inr (Or.inl rfl) | exact Or.inr (Or.inr rfl)))) ja_nil)))))) (PE0 := (pe_bm PySem.F.plainAttrs_list PySem.F.slot_list_append PySem.F.type_list_append mt_append (jl_var (i := 2) rfl (by first | exact Or.inl rfl | exact Or.inr (Or.inl rfl) | exact Or.inr (Or.inr rfl))) (pa_cons (jc_sh (je_tup (ja_c (jc_sh (je_var (i := 3) rfl (by first | exact Or.inl rfl | exact Or.inr (Or.inl rfl) | exact Or.inr (Or.inr rfl)))) (ja_c (jc_sh (je_cell (jc_call (ok__law_unlike T) rfl (hr.mono (by decide)) (by rfl) T.g__law_unlike T.F__law_unlike.kp T.b__law_unlike (ja_c (jc_lo (jl_var (i := 0) rfl (by first | exact Or.inl rfl | exact Or.inr (Or.inl rfl) | exact Or.inr (Or.inr rfl)))) (ja_c (jc_sh (je_var (i := 5) rfl (by first | exact Or.inl rfl | exact Or.inr (Or.inl rfl) | exact Or.inr (Or.inr rfl)))) ja_nil))))) (ja_c (jc_sh (je_cell (jc_call (ok__law_unlike T) rfl (hr.mono (by decide)) (by rfl) T.g__law_unlike T.F__law_unlike.kp T.b__law_unlike (ja_c (jc_lo (jl_var (i := 0) rfl (by first | exact Or.inl rfl | exact Or.inr (Or.inl rfl) | exact Or.inr (Or.inr rfl)))) (ja_c (jc_sh (je_var (i := 6) rfl (by first | exact Or.inl rfl | exact Or.inr (Or.inl rfl) | exact Or.inr (Or.inr rfl)))) ja_nil))))) (ja_c (jc_sh (je_var (i := 7) rfl (by first | exact Or.inl rfl | exact Or.inr (Or.inl rfl) | exact Or.inr (Or.inr rfl)))) ja_nil)))))) pa_nil))))
    (jss_one (js_app (jl_cell (jc_dget hr.units (jl_var (i := 0) rfl (by first | exact Or.inl rfl | exact Or.inr (Or.inl rfl) | exact Or.inr (Or.inr rfl))) je_str (fun _ _ => rfl))) (jc_sh (je_tup (ja_c (jc_sh (je_var (i := 3) rfl (by first | exact Or.inl rfl | exact Or.inr (Or.inl rfl) | exact Or.inr (Or.inr rfl)))) (ja_c (jc_sh (je_var (i := 5) rfl (by first | exact Or.inl rfl | exact Or.inr (Or.inl rfl) | exact Or.inr (Or.inr rfl)))) (ja_c (jc_sh (je_var (i := 6) rfl (by first | exact Or.inl rfl | exact Or.inr (Or.inl rfl) | exact Or.inr (Or.inr rfl)))) ja_nil))))) (PE0 := (pe_bm PySem.F.plainAttrs_list PySem.F.slot_list_append PySem.F.type_list_append mt_append (jl_cell (jc_dget hr.units (jl_var (i := 0) rfl (by first | exact Or.inl rfl | exact Or.inr (Or.inl rfl) | exact Or.inr (Or.inr rfl))) je_str (fun _ _ => rfl))) (pa_cons (jc_sh (je_tup (ja_c (jc_sh (je_var (i := 3) rfl (by first | exact Or.inl rfl | exact Or.inr (Or.inl rfl) | exact Or.inr (Or.inr rfl)))) (ja_c (jc_sh (je_var (i := 5) rfl (by first | exact Or.inl rfl | exact Or.inr (Or.inl rfl) | exact Or.inr (Or.inr rfl)))) (ja_c (jc_sh (je_var (i := 6) rfl (by first | exact Or.inl rfl | exact Or.inr (Or.inl rfl) | exact Or.inr (Or.inr rfl)))) ja_nil))))) pa_nil)))))))))))
    (jss_cons (js_dput hr.units (jl_var (i := 0) rfl (by first | exact Or.inl rfl | exact Or.inr (Or.inl rfl) | exact Or.inr (Or.inr rfl))) je_str (jc_sh (je_callB (call_max2 rfl) (cs_II (f := fun i j => if j > i then j else i)) (by rfl) T.z_max (by decide +kernel) (ja_c (jc_sh (je_cell (jc_dget hr.units (jl_var (i := 0) rfl (by first | exact Or.inl rfl | exact Or.inr (Or.inl rfl) | exact Or.inr (Or.inr rfl))) je_str (fun _ _ => rfl)))) (ja_c (jc_sh je_int) ja_nil)))))
    (jss_one (js_ret (jc_sh (je_tup (ja_c (jc_sh (je_tupOf (by rfl) T.z_tuple (by decide +kernel) (jc_lo (jl_var (i := 2) rfl (by first | exact Or.inl rfl | exact Or.inr (Or.inl rfl) | exact Or.inr (Or.inr rfl)))))) (ja_c (jc_sh (je_cell (jc_call ((ok_G30 T 14).1) rfl (hr.mono (by decide)) (by rfl) T.g__law_row T.F__law_row.kp T.b__law_row (ja_c (jc_lo (jl_var (i := 0) rfl (by first | exact Or.inl rfl | exact Or.inr (Or.inl rfl) | exact Or.inr (Or.inr rfl)))) (ja_c (jc_sh je_int) (ja_c (jc_sh (je_ix (je_lst (ja_c (jc_sh je_int) (ja_c (jc_sh je_int) (ja_c (jc_sh je_int) (ja_c (jc_sh je_int) ja_nil))))) (je_cell (jc_call (ok__law_draw T) rfl (hr.mono (by decide)) (by rfl) T.g__law_draw T.F__law_draw.kp T.b__law_draw (ja_c (jc_lo (jl_cell (jc_dget hr.units (jl_var (i := 0) rfl (by first | exact Or.inl rfl | exact Or.inr (Or.inl rfl) | exact Or.inr (Or.inr rfl))) je_str (fun _ _ => rfl)))) (ja_c (jc_sh je_int) ja_nil)))) (fun _ _ => rfl))) (ja_c (jc_sh je_int) ja_nil))))))) ja_nil)))))))))
theorem ok__law_in_brackets (T : Tx w K mg) : FnOk P w K mg base CX0 1 T.a__law_in_brackets T.d__law_in_brackets ["_law_boxes"] (spF K 1 f__law_in_brackets) := by
  have sc := sc__law_in_brackets
  refine fn_J T.F__law_in_brackets sc rfl rfl (by decide) fun cdv A outer s H E hr => ?_
  exact (jss_one (js_ret (jc_sh (je_bin op_addA os_add (je_bin op_addA os_add je_str (je_m1 PySem.F.slot_str_join PySem.F.type_str_join mt_join ms_join je_str (je_fr (jo_comp (own := [("_law_box", 1)]) (by decide) rfl sc.nd (ji_any (je_var (i := 0) rfl (by first | exact Or.inl rfl | exact Or.inr (Or.inl rfl) | exact Or.inr (Or.inr rfl)))) (blkOk_by (N := N__law_in_brackets) (sc := defScope s__law_in_brackets) (by decide +kernel)) (fun _ _ _ _ _ => (jg_name (i := 1) sc.nd rfl (by first | exact Or.inl rfl | exact Or.inr rfl))) (fun _ _ _ _ _ => jts_nil) (fun _ _ _ _ _ => (je_bin op_addA os_add (je_var (i := 1) rfl (by first | exact Or.inl rfl | exact Or.inr (Or.inl rfl) | exact Or.inr (Or.inr rfl))) je_str)))))) je_str))))
theorem ok_G33 (T : Tx w K mg) : ∀ k : Nat, FnOk P w K mg base CX0 (1 + k) T.a__law_braced T.d__law_braced ["_law_rows"] (spF K 1 (f_G33 k 0)) ∧ FnOk P w K mg base CX0 (1 + k) T.a__law_text T.d__law_text ["_law_row_here"] (spF K 1 (f_G33 k 1))
  | 0 => ⟨fn_bad rfl, fn_bad rfl⟩
  | k + 1 => by
    have ih := ok_G33 T k
    exact ⟨(by
      have sc := sc__law_braced
      refine fn_J T.F__law_braced sc rfl rfl (by decide) fun cdv A outer s H E hr => ?_
      exact (jss_cons (js_lc (mc := (fun m => mSh (mFr m))) (i := 1) (own := [("_law_row_here", 2)]) (by decide) rfl sc.nd rfl rfl mc_fr (sw_true rfl rfl rfl (by decide +kernel)) (ji_any (je_var (i := 0) rfl (by first | exact Or.inl rfl | exact Or.inr (Or.inl rfl) | exact Or.inr (Or.inr rfl)))) (blkOk_by (N := N__law_braced) (sc := defScope s__law_braced) (by decide +kernel)) (fun _ _ _ _ _ => (jg_name (i := 2) sc.nd rfl (by first | exact Or.inl rfl | exact Or.inr rfl))) (fun _ _ _ _ _ => jts_nil) (fun _ _ _ _ _ => (je_cell (jc_call ih.2 rfl hr (by rfl) T.g__law_text T.F__law_text.kp T.b__law_text (ja_c (jc_sh (je_var (i := 2) rfl (by first | exact Or.inl rfl | exact Or.inr (Or.inl rfl) | exact Or.inr (Or.inr rfl)))) ja_nil)))))
    (jss_one (js_ret (jc_sh (je_bin op_addA os_add (je_bin op_addA os_add je_str (je_m1 PySem.F.slot_str_join PySem.F.type_str_join mt_join ms_join je_str (je_fr (jo_comp (own := [("_law_part", 3)]) (by decide) rfl sc.nd (ji_any (je_var (i := 1) rfl (by first | exact Or.inl rfl | exact Or.inr (Or.inl rfl) | exact Or.inr (Or.inr rfl)))) (blkOk_by (N := N__law_braced) (sc := defScope s__law_braced) (by decide +kernel)) (fun _ _ _ _ _ => (jg_name (i := 3) sc.nd rfl (by first | exact Or.inl rfl | exact Or.inr rfl))) (fun _ _ _ _ _ => jts_nil) (fun _ _ _ _ _ => (je_bin op_addA os_add (je_var (i := 3) rfl (by first | exact Or.inl rfl | exact Or.inr (Or.inl rfl) | exact Or.inr (Or.inr rfl))) (je_bin op_mulA os_mul je_str (je_callTy call_int1 cs_int (by rfl) T.z_int (by decide +kernel) (ja_c (jc_sh (je_cmp (op_neA hr.units) os_ne (je_var (i := 3) rfl (by first | exact Or.inl rfl | exact Or.inr (Or.inl rfl) | exact Or.inr (Or.inr rfl))) je_str (nomark _))) ja_nil))))))))) je_str)))))), (by
      have sc := sc__law_text
      refine fn_J T.F__law_text sc rfl rfl (by decide) fun cdv A outer s H E hr => ?_
      exact (jss_cons (js_set (i := 1) sc.nd rfl (by first | exact Or.inl rfl | exact Or.inr rfl) (jc_lo (jl_new (jo_lst ja_nil))))
    (jss_cons (js_for PassesOwn.never rfl (ji_any (je_var (i := 0) rfl (by first | exact Or.inl rfl | exact Or.inr (Or.inl rfl) | exact Or.inr (Or.inr rfl)))) (jg_name (i := 2) sc.nd rfl (by first | exact Or.inl rfl | exact Or.inr rfl))
    (jss_one (js_if (jt_cmp (op_eqA hr.units) os_eq (je_ix (je_var (i := 2) rfl (by first | exact Or.inl rfl | exact Or.inr (Or.inl rfl) | exact Or.inr (Or.inr rfl))) je_int (fun _ _ => rfl)) je_str (nomark _))
    (jss_one (js_app (jl_var (i := 1) rfl (by first | exact Or.inl rfl | exact Or.inr (Or.inl rfl) | exact Or.inr (Or.inr rfl))) (jc_sh (je_bin op_addA os_add je_str (je_cell (jc_call ih.1 rfl hr (by rfl) T.g__law_braced T.F__law_braced.kp T.b__law_braced (ja_c (jc_sh (je_ix (je_var (i := 2) rfl (by first | exact Or.inl rfl | exact Or.inr (Or.inl rfl) | exact Or.inr (Or.inr rfl))) je_int (fun _ _ => rfl))) ja_nil))))) (PE0 := (pe_bm PySem.F.plainAttrs_list PySem.F.slot_list_append PySem.F.type_list_append mt_append (jl_var (i := 1) rfl (by first | exact Or.inl rfl | exact Or.inr (Or.inl rfl) | exact Or.inr (Or.inr rfl))) (pa_cons (jc_sh (je_bin op_addA os_add je_str (je_cell (jc_call ih.1 rfl hr (by rfl) T.g__law_braced T.F__law_braced.kp T.b__law_braced (ja_c (jc_sh (je_ix (je_var (i := 2) rfl (by first | exact Or.inl rfl | exact Or.inr (Or.inl rfl) | exact Or.inr (Or.inr rfl))) je_int (fun _ _ => rfl))) ja_nil))))) pa_nil)))))
    (jss_one (js_if (jt_cmp (op_eqA hr.units) os_eq (je_ix (je_var (i := 2) rfl (by first | exact Or.inl rfl | exact Or.inr (Or.inl rfl) | exact Or.inr (Or.inr rfl))) je_int (fun _ _ => rfl)) je_str (nomark _))
    (jss_one (js_app (jl_var (i := 1) rfl (by first | exact Or.inl rfl | exact Or.inr (Or.inl rfl) | exact Or.inr (Or.inr rfl))) (jc_sh (je_bin op_addA os_add je_str (je_cell (jc_call ih.1 rfl hr (by rfl) T.g__law_braced T.F__law_braced.kp T.b__law_braced (ja_c (jc_sh (je_tup (ja_c (jc_sh (je_ix (je_var (i := 2) rfl (by first | exact Or.inl rfl | exact Or.inr (Or.inl rfl) | exact Or.inr (Or.inr rfl))) je_int (fun _ _ => rfl))) ja_nil))) ja_nil))))) (PE0 := (pe_bm PySem.F.plainAttrs_list PySem.F.slot_list_append PySem.F.type_list_append mt_append (jl_var (i := 1) rfl (by first | exact Or.inl rfl | exact Or.inr (Or.inl rfl) | exact Or.inr (Or.inr rfl))) (pa_cons (jc_sh (je_bin op_addA os_add je_str (je_cell (jc_call ih.1 rfl hr (by rfl) T.g__law_braced T.F__law_braced.kp T.b__law_braced (ja_c (jc_sh (je_tup (ja_c (jc_sh (je_ix (je_var (i := 2) rfl (by first | exact Or.inl rfl | exact Or.inr (Or.inl rfl) | exact Or.inr (Or.inr rfl))) je_int (fun _ _ => rfl))) ja_nil))) ja_nil))))) pa_nil)))))
    (jss_one (js_if (jt_cmp (op_eqA hr.units) os_eq (je_ix (je_var (i := 2) rfl (by first | exact Or.inl rfl | exact Or.inr (Or.inl rfl) | exact Or.inr (Or.inr rfl))) je_int (fun _ _ => rfl)) je_str (nomark _))
    (jss_one (js_app (jl_var (i := 1) rfl (by first | exact Or.inl rfl | exact Or.inr (Or.inl rfl) | exact Or.inr (Or.inr rfl))) (jc_sh (je_bin op_addA os_add je_str (je_cell (jc_call (ok__law_in_brackets T) rfl (hr.mono (Nat.le_trans (m := 1) (by decide) (Nat.le_add_right _ _))) (by rfl) T.g__law_in_brackets T.F__law_in_brackets.kp T.b__law_in_brackets (ja_c (jc_sh (je_ix (je_var (i := 2) rfl (by first | exact Or.inl rfl | exact Or.inr (Or.inl rfl) | exact Or.inr (Or.inr rfl))) je_int (fun _ _ => rfl))) ja_nil))))) (PE0 := (pe_bm PySem.F.plainAttrs_list PySem.F.slot_list_append PySem.F.type_list_append mt_append (jl_var (i := 1) rfl (by first | exact Or.inl rfl | exact Or.inr (Or.inl rfl) | exact Or.inr (Or.inr rfl))) (pa_cons (jc_sh (je_bin op_addA os_add je_str (je_cell (jc_call (ok__law_in_brackets T) rfl (hr.mono (Nat.le_trans (m := 1) (by decide) (Nat.le_add_right _ _))) (by rfl) T.g__law_in_brackets T.F__law_in_brackets.kp T.b__law_in_brackets (ja_c (jc_sh (je_ix (je_var (i := 2) rfl (by first | exact Or.inl rfl | exact Or.inr (Or.inl rfl) | exact Or.inr (Or.inr rfl))) je_int (fun _ _ => rfl))) ja_nil))))) pa_nil)))))
    (jss_one (js_if (jt_cmp (op_eqA hr.units) os_eq (je_ix (je_var (i := 2) rfl (by first | exact Or.inl rfl | exact Or.inr (Or.inl rfl) | exact Or.inr (Or.inr rfl))) je_int (fun _ _ => rfl)) je_str (nomark _))
    (jss_cons (js_lc (mc := (fun m => mSh (mFr m))) (i := 3) (own := [("_law_boxes", 4)]) (by decide) rfl sc.nd rfl rfl mc_fr (sw_true rfl rfl rfl (by decide +kernel)) (ji_any (je_slice (je_var (i := 2) rfl (by first | exact Or.inl rfl | exact Or.inr (Or.inl rfl) | exact Or.inr (Or.inr rfl))) (jp_some je_int) jp_none)) (blkOk_by (N := N__law_text) (sc := defScope s__law_text) (by decide +kernel)) (fun _ _ _ _ _ => (jg_name (i := 4) sc.nd rfl (by first | exact Or.inl rfl | exact Or.inr rfl))) (fun _ _ _ _ _ => jts_nil) (fun _ _ _ _ _ => (je_cell (jc_call (ok__law_in_brackets T) rfl (hr.mono (Nat.le_trans (m := 1) (by decide) (Nat.le_add_right _ _))) (by rfl) T.g__law_in_brackets T.F__law_in_brackets.kp T.b__law_in_brackets (ja_c (jc_sh (je_var (i := 4) rfl (by first | exact Or.inl rfl | exact Or.inr (Or.inl rfl) | exact Or.inr (Or.inr rfl)))) ja_nil)))))
    (jss_one (js_app (jl_var (i := 1) rfl (by first | exact Or.inl rfl | exact Or.inr (Or.inl rfl) | exact Or.inr (Or.inr rfl))) (jc_sh (je_m1 PySem.F.slot_str_join PySem.F.type_str_join mt_join ms_join je_str (je_bin op_addA os_add (je_lst (ja_c (jc_sh je_str) (ja_c (jc_sh (je_ix (je_var (i := 2) rfl (by first | exact Or.inl rfl | exact Or.inr (Or.inl rfl) | exact Or.inr (Or.inr rfl))) je_int (fun _ _ => rfl))) ja_nil))) (je_var (i := 3) rfl (by first | exact Or.inl rfl | exact Or.inr (Or.inl rfl) | exact Or.inr (Or.inr rfl)))))) (PE0 := (pe_bm PySem.F.plainAttrs_list PySem.F.slot_list_append PySem.F.type_list_append mt_append (jl_var (i := 1) rfl (by first | exact Or.inl rfl | exact Or.inr (Or.inl rfl) | exact Or.inr (Or.inr rfl))) (pa_cons (jc_sh (je_m1 PySem.F.slot_str_join PySem.F.type_str_join mt_join ms_join je_str (je_bin op_addA os_add (je_lst (ja_c (jc_sh je_str) (ja_c (jc_sh (je_ix (je_var (i := 2) rfl (by first | exact Or.inl rfl | exact Or.inr (Or.inl rfl) | exact Or.inr (Or.inr rfl))) je_int (fun _ _ => rfl))) ja_nil))) (je_var (i := 3) rfl (by first | exact Or.inl rfl | exact Or.inr (Or.inl rfl) | exact Or.inr (Or.inr rfl)))))) pa_nil))))))
    (jss_one (js_app (jl_var (i := 1) rfl (by first | exact Or.inl rfl | exact Or.inr (Or.inl rfl) | exact Or.inr (Or.inr rfl))) (jc_sh (je_m1 PySem.F.slot_str_join PySem.F.type_str_join mt_join ms_join je_str (je_fr (jo_comp (own := [("_law_one", 5)]) (by decide) rfl sc.nd (ji_any (je_var (i := 2) rfl (by first | exact Or.inl rfl | exact Or.inr (Or.inl rfl) | exact Or.inr (Or.inr rfl)))) (blkOk_by (N := N__law_text) (sc := defScope s__law_text) (by decide +kernel)) (fun _ _ _ _ _ => (jg_name (i := 5) sc.nd rfl (by first | exact Or.inl rfl | exact Or.inr rfl))) (fun _ _ _ _ _ => jts_nil) (fun _ _ _ _ _ => (je_callTy call_strA cs_strA (by rfl) T.z_str (by decide +kernel) (ja_c (jc_sh (je_var (i := 5) rfl (by first | exact Or.inl rfl | exact Or.inr (Or.inl rfl) | exact Or.inr (Or.inr rfl)))) ja_nil))))))) (PE0 := (pe_bm PySem.F.plainAttrs_list PySem.F.slot_list_append PySem.F.type_list_append mt_append (jl_var (i := 1) rfl (by first | exact Or.inl rfl | exact Or.inr (Or.inl rfl) | exact Or.inr (Or.inr rfl))) (pa_cons (jc_sh (je_m1 PySem.F.slot_str_join PySem.F.type_str_join mt_join ms_join je_str (je_fr (jo_comp (own := [("_law_one", 5)]) (by decide) rfl sc.nd (ji_any (je_var (i := 2) rfl (by first | exact Or.inl rfl | exact Or.inr (Or.inl rfl) | exact Or.inr (Or.inr rfl)))) (blkOk_by (N := N__law_text) (sc := defScope s__law_text) (by decide +kernel)) (fun _ _ _ _ _ => (jg_name (i := 5) sc.nd rfl (by first | exact Or.inl rfl | exact Or.inr rfl))) (fun _ _ _ _ _ => jts_nil) (fun _ _ _ _ _ => (je_callTy call_strA cs_strA (by rfl) T.z_str (by decide +kernel) (ja_c (jc_sh (je_var (i := 5) rfl (by first | exact Or.inl rfl | exact Or.inr (Or.inl rfl) | exact Or.inr (Or.inr rfl)))) ja_nil))))))) pa_nil))))))))))))))
    (jss_one (js_ret (jc_sh (je_m1C PySem.F.slot_str_join PySem.F.type_str_join mt_join ms_join je_str (jc_lo (jl_var (i := 1) rfl (by first | exact Or.inl rfl | exact Or.inr (Or.inl rfl) | exact Or.inr (Or.inr rfl)))))))))))⟩
theorem ok_G34 (T : Tx w K mg) : ∀ k : Nat, FnOk P w K mg base CX0 (0 + k) T.a__law_plain T.d__law_plain ["_law_thing"] (spF K 1 (f_G34 k 0))
  | 0 => fn_bad rfl
  | k + 1 => by
    have ih := ok_G34 T k
    exact (by
      have sc := sc__law_plain
      refine fn_J T.F__law_plain sc rfl rfl (by decide) fun cdv A outer s H E hr => ?_
      exact (jss_cons (js_if (jt_val (je_isi (T := "tuple") (T' := "tuple") (je_var (i := 0) rfl (by first | exact Or.inl rfl | exact Or.inr (Or.inl rfl) | exact Or.inr (Or.inr rfl))) (by rfl) T.z_isinstance (by rfl) T.z_tuple (by decide +kernel)))
    (jss_one (js_ret (jc_sh (je_cmp (op_eqA hr.units) os_eq (je_fr (jo_comp (own := [("_law_one", 1)]) (by decide) rfl sc.nd (ji_any (je_var (i := 0) rfl (by first | exact Or.inl rfl | exact Or.inr (Or.inl rfl) | exact Or.inr (Or.inr rfl)))) (blkOk_by (N := N__law_plain) (sc := defScope s__law_plain) (by decide +kernel)) (fun _ _ _ _ _ => (jg_name (i := 1) sc.nd rfl (by first | exact Or.inl rfl | exact Or.inr rfl))) (fun _ _ _ _ _ => (jts_one (jt_not (jt_val (je_cell (jc_call ih rfl hr (by rfl) T.g__law_plain T.F__law_plain.kp T.b__law_plain (ja_c (jc_sh (je_var (i := 1) rfl (by first | exact Or.inl rfl | exact Or.inr (Or.inl rfl) | exact Or.inr (Or.inr rfl)))) ja_nil))))))) (fun _ _ _ _ _ => (je_var (i := 1) rfl (by first | exact Or.inl rfl | exact Or.inr (Or.inl rfl) | exact Or.inr (Or.inr rfl)))))) (je_lst ja_nil) (nomark _)))))
    jss_nil)
    (jss_one (js_ret (jc_sh (je_and (je_isi2 (S := "str") (S' := "str") (T := "int") (T' := "int") (je_var (i := 0) rfl (by first | exact Or.inl rfl | exact Or.inr (Or.inl rfl) | exact Or.inr (Or.inr rfl))) (by rfl) T.z_isinstance (by rfl) T.z_str (by decide +kernel) (by rfl) T.z_int (by decide +kernel)) (je_one (je_not (je_isi (T := "bool") (T' := "bool") (je_var (i := 0) rfl (by first | exact Or.inl rfl | exact Or.inr (Or.inl rfl) | exact Or.inr (Or.inr rfl))) (by rfl) T.z_isinstance (by rfl) T.z_bool (by decide +kernel))))))))))
theorem ok__law_right (T : Tx w K mg) : FnOk P w K mg base CX0 28 T.a__law_right T.d__law_right ["_law_program_here"] (spF K 1 f__law_right) := by
  have sc := sc__law_right
  refine fn_J T.F__law_right sc rfl rfl (by decide) fun cdv A outer s H E hr => ?_
  exact (jss_cons (js_set (i := 1) sc.nd rfl (by first | exact Or.inl rfl | exact Or.inr rfl) (jc_lo (jl_new (jo_lst ja_nil))))
    (jss_cons (js_for PassesOwn.never rfl (ji_any (je_ix (je_var (i := 0) rfl (by first | exact Or.inl rfl | exact Or.inr (Or.inl rfl) | exact Or.inr (Or.inr rfl))) je_int (fun _ _ => rfl))) (jg_tup rfl (jgs_cons (jg_name (i := 6) sc.nd rfl (by first | exact Or.inl rfl | exact Or.inr rfl)) (jgs_cons (jg_name (i := 7) sc.nd rfl (by first | exact Or.inl rfl | exact Or.inr rfl)) (jgs_cons (jg_name (i := 8) sc.nd rfl (by first | exact Or.inl rfl | exact Or.inr rfl)) (jgs_cons (jg_name (i := 9) sc.nd rfl (by first | exact Or.inl rfl | exact Or.inr rfl)) jgs_nil)))))
    (jss_cons (js_set (i := 10) sc.nd rfl (by first | exact Or.inl rfl | exact Or.inr rfl) (jc_sh (je_lst (ja_c (jc_sh (je_cell (jc_call (ok__law_in_brackets T) rfl (hr.mono (by decide)) (by rfl) T.g__law_in_brackets T.F__law_in_brackets.kp T.b__law_in_brackets (ja_c (jc_sh (je_var (i := 7) rfl (by first | exact Or.inl rfl | exact Or.inr (Or.inl rfl) | exact Or.inr (Or.inr rfl)))) ja_nil)))) (ja_c (jc_sh (je_cell (jc_call (ok__law_in_brackets T) rfl (hr.mono (by decide)) (by rfl) T.g__law_in_brackets T.F__law_in_brackets.kp T.b__law_in_brackets (ja_c (jc_sh (je_var (i := 8) rfl (by first | exact Or.inl rfl | exact Or.inr (Or.inl rfl) | exact Or.inr (Or.inr rfl)))) ja_nil)))) ja_nil)))))
    (jss_one (js_app (jl_var (i := 1) rfl (by first | exact Or.inl rfl | exact Or.inr (Or.inl rfl) | exact Or.inr (Or.inr rfl))) (jc_sh (je_m1 PySem.F.slot_str_join PySem.F.type_str_join mt_join ms_join je_str (je_bin op_addA os_add (je_bin op_addA os_add (je_lst (ja_c (jc_sh je_str) (ja_c (jc_sh (je_var (i := 6) rfl (by first | exact Or.inl rfl | exact Or.inr (Or.inl rfl) | exact Or.inr (Or.inr rfl)))) ja_nil))) (je_var (i := 10) rfl (by first | exact Or.inl rfl | exact Or.inr (Or.inl rfl) | exact Or.inr (Or.inr rfl)))) (je_lst (ja_c (jc_sh (je_cell (jc_call ((ok_G33 T 14).1) rfl (hr.mono (by decide)) (by rfl) T.g__law_braced T.F__law_braced.kp T.b__law_braced (ja_c (jc_sh (je_tup (ja_c (jc_sh (je_var (i := 9) rfl (by first | exact Or.inl rfl | exact Or.inr (Or.inl rfl) | exact Or.inr (Or.inr rfl)))) ja_nil))) ja_nil)))) ja_nil))))) (PE0 := (pe_bm PySem.F.plainAttrs_list PySem.F.slot_list_append PySem.F.type_list_append mt_append (jl_var (i := 1) rfl (by first | exact Or.inl rfl | exact Or.inr (Or.inl rfl) | exact Or.inr (Or.inr rfl))) (pa_cons (jc_sh (je_m1 PySem.F.slot_str_join PySem.F.type_str_join mt_join ms_join je_str (je_bin op_addA os_add (je_bin op_addA os_add (je_lst (ja_c (jc_sh je_str) (ja_c (jc_sh (je_var (i := 6) rfl (by first | exact Or.inl rfl | exact Or.inr (Or.inl rfl) | exact Or.inr (Or.inr rfl)))) ja_nil))) (je_var (i := 10) rfl (by first | exact Or.inl rfl | exact Or.inr (Or.inl rfl) | exact Or.inr (Or.inr rfl)))) (je_lst (ja_c (jc_sh (je_cell (jc_call ((ok_G33 T 14).1) rfl (hr.mono (by decide)) (by rfl) T.g__law_braced T.F__law_braced.kp T.b__law_braced (ja_c (jc_sh (je_tup (ja_c (jc_sh (je_var (i := 9) rfl (by first | exact Or.inl rfl | exact Or.inr (Or.inl rfl) | exact Or.inr (Or.inr rfl)))) ja_nil))) ja_nil)))) ja_nil))))) pa_nil)))))))
    (jss_cons (js_set (i := 2) sc.nd rfl (by first | exact Or.inl rfl | exact Or.inr rfl) (jc_sh (je_m1 PySem.F.slot_str_join PySem.F.type_str_join mt_join ms_join je_str (je_fr (jo_cat (jc_lo (jl_var (i := 1) rfl (by first | exact Or.inl rfl | exact Or.inr (Or.inl rfl) | exact Or.inr (Or.inr rfl)))) (jc_sh (je_lst (ja_c (jc_sh (je_bin op_addA os_add je_str (je_cell (jc_call ((ok_G33 T 14).1) rfl (hr.mono (by decide)) (by rfl) T.g__law_braced T.F__law_braced.kp T.b__law_braced (ja_c (jc_sh (je_tup (ja_c (jc_sh (je_ix (je_var (i := 0) rfl (by first | exact Or.inl rfl | exact Or.inr (Or.inl rfl) | exact Or.inr (Or.inr rfl))) je_int (fun _ _ => rfl))) ja_nil))) ja_nil))))) ja_nil))))))))
    (jss_cons (js_set (i := 3) sc.nd rfl (by first | exact Or.inl rfl | exact Or.inr rfl) (jc_sh (je_bin op_addA os_add (je_fr (jo_comp (own := [("_law_one", 11)]) (by decide) rfl sc.nd (ji_any (je_ix (je_var (i := 0) rfl (by first | exact Or.inl rfl | exact Or.inr (Or.inl rfl) | exact Or.inr (Or.inr rfl))) je_int (fun _ _ => rfl))) (blkOk_by (N := N__law_right) (sc := defScope s__law_right) (by decide +kernel)) (fun _ _ _ _ _ => (jg_name (i := 11) sc.nd rfl (by first | exact Or.inl rfl | exact Or.inr rfl))) (fun _ _ _ _ _ => jts_nil) (fun _ _ _ _ _ => (je_ix (je_var (i := 11) rfl (by first | exact Or.inl rfl | exact Or.inr (Or.inl rfl) | exact Or.inr (Or.inr rfl))) je_int (fun _ _ => rfl))))) (je_lst (ja_c (jc_sh (je_ix (je_var (i := 0) rfl (by first | exact Or.inl rfl | exact Or.inr (Or.inl rfl) | exact Or.inr (Or.inr rfl))) je_int (fun _ _ => rfl))) ja_nil)))))
    (jss_cons (js_lc (mc := (fun m => mSh (mFr m))) (i := 4) (own := [("_law_row_here", 9)]) (by decide) rfl sc.nd rfl rfl mc_fr (sw_true rfl rfl rfl (by decide +kernel)) (ji_any (je_var (i := 3) rfl (by first | exact Or.inl rfl | exact Or.inr (Or.inl rfl) | exact Or.inr (Or.inr rfl)))) (blkOk_by (N := N__law_right) (sc := defScope s__law_right) (by decide +kernel)) (fun _ _ _ _ _ => (jg_name (i := 9) sc.nd rfl (by first | exact Or.inl rfl | exact Or.inr rfl))) (fun _ _ _ _ _ => (jts_one (jt_cmp (op_neA hr.units) os_ne (je_cell (jc_call ((ok_G10 T 20).2.2) rfl (hr.mono (by decide)) (by rfl) T.g_show_row T.F_show_row.kp T.b_show_row (ja_c (jc_sh (je_var (i := 9) rfl (by first | exact Or.inl rfl | exact Or.inr (Or.inl rfl) | exact Or.inr (Or.inr rfl)))) ja_nil))) (je_cell (jc_call ((ok_G33 T 14).2) rfl (hr.mono (by decide)) (by rfl) T.g__law_text T.F__law_text.kp T.b__law_text (ja_c (jc_sh (je_var (i := 9) rfl (by first | exact Or.inl rfl | exact Or.inr (Or.inl rfl) | exact Or.inr (Or.inr rfl)))) ja_nil))) (nomark _)))) (fun _ _ _ _ _ => (je_var (i := 9) rfl (by first | exact Or.inl rfl | exact Or.inr (Or.inl rfl) | exact Or.inr (Or.inr rfl)))))
    (jss_cons (js_if (PW.pt (jw_or (jt_cmp (op_neA hr.units) os_ne (je_cell (jc_call (ok_show_program T) rfl (hr.mono (by decide)) (by rfl) T.g_show_program T.F_show_program.kp T.b_show_program (ja_c (jc_sh (je_var (i := 0) rfl (by first | exact Or.inl rfl | exact Or.inr (Or.inl rfl) | exact Or.inr (Or.inr rfl)))) ja_nil))) (je_var (i := 2) rfl (by first | exact Or.inl rfl | exact Or.inr (Or.inl rfl) | exact Or.inr (Or.inr rfl))) (nomark _)) (jw_or1 (jt_cmp (op_neA hr.units) os_ne (je_var (i := 4) rfl (by first | exact Or.inl rfl | exact Or.inr (Or.inl rfl) | exact Or.inr (Or.inr rfl))) (je_lst ja_nil) (nomark _)))))
    (jss_one (js_ret (jc_sh je_bl)))
    jss_nil)
    (jss_cons (js_set (i := 5) sc.nd rfl (by first | exact Or.inl rfl | exact Or.inr rfl) (jc_sh (je_cell (jc_call (ok_read_program T) rfl (hr.mono (by decide)) (by rfl) T.g_read_program T.F_read_program.kp T.b_read_program (ja_c (jc_sh (je_var (i := 2) rfl (by first | exact Or.inl rfl | exact Or.inr (Or.inl rfl) | exact Or.inr (Or.inr rfl)))) ja_nil)))))
    (jss_one (js_ret (jc_sh (je_and (je_cmp (op_eqA hr.units) os_eq (je_var (i := 5) rfl (by first | exact Or.inl rfl | exact Or.inr (Or.inl rfl) | exact Or.inr (Or.inr rfl))) (je_var (i := 0) rfl (by first | exact Or.inl rfl | exact Or.inr (Or.inl rfl) | exact Or.inr (Or.inr rfl))) (nomark _)) (je_and (je_cell (jc_call ((ok_G34 T 20)) rfl (hr.mono (by decide)) (by rfl) T.g__law_plain T.F__law_plain.kp T.b__law_plain (ja_c (jc_sh (je_var (i := 5) rfl (by first | exact Or.inl rfl | exact Or.inr (Or.inl rfl) | exact Or.inr (Or.inr rfl)))) ja_nil))) (je_one (je_cmp (op_eqA hr.units) os_eq (je_cell (jc_call (ok_show_program T) rfl (hr.mono (by decide)) (by rfl) T.g_show_program T.F_show_program.kp T.b_show_program (ja_c (jc_sh (je_var (i := 5) rfl (by first | exact Or.inl rfl | exact Or.inr (Or.inl rfl) | exact Or.inr (Or.inr rfl)))) ja_nil))) (je_var (i := 2) rfl (by first | exact Or.inl rfl | exact Or.inr (Or.inl rfl) | exact Or.inr (Or.inr rfl))) (nomark _)))))))))))))))
theorem ok_law (T : Tx w K mg) : FnOk P w K mg base CX0 29 T.a_law T.d_law ["_law_script"] (spF K 1 f_law) := by
  have sc := sc_law
  refine fn_J T.F_law sc rfl rfl (by decide) fun cdv A outer s H E hr => ?_
  exact (jss_cons (js_for PassesOwn.never rfl (ji_range1 (by rfl) T.z_range (je_callB (call_max2 rfl) (cs_II (f := fun i j => if j > i then j else i)) (by rfl) T.z_max (by decide +kernel) (ja_c (jc_sh je_int) (ja_c (jc_sh (je_callB (call_min2 rfl) (cs_II (f := fun i j => if j < i then j else i)) (by rfl) T.z_min (by decide +kernel) (ja_c (jc_sh (je_callB call_lenA cs_len (by rfl) T.z_len (by decide +kernel) (ja_c (jc_sh (je_var (i := 0) rfl (by first | exact Or.inl rfl | exact Or.inr (Or.inl rfl) | exact Or.inr (Or.inr rfl)))) ja_nil))) (ja_c (jc_sh je_int) ja_nil)))) ja_nil)))) (jg_name (i := 1) sc.nd rfl (by first | exact Or.inl rfl | exact Or.inr rfl))
    (jss_cons (js_set (i := 2) sc.nd rfl (by first | exact Or.inl rfl | exact Or.inr rfl) (jc_sh (je_cell (jc_call (ok__law_program T) rfl (hr.mono (by decide)) (by rfl) T.g__law_program T.F__law_program.kp T.b__law_program (ja_c (jc_lo (jl_cell (jc_call (ok__law_kit T) rfl (hr.mono (by decide)) (by rfl) T.g__law_kit T.F__law_kit.kp T.b__law_kit (ja_c (jc_lo (jl_cell (jc_call (ok__law_deck T) rfl (hr.mono (by decide)) (by rfl) T.g__law_deck T.F__law_deck.kp T.b__law_deck (ja_c (jc_sh (je_var (i := 0) rfl (by first | exact Or.inl rfl | exact Or.inr (Or.inl rfl) | exact Or.inr (Or.inr rfl)))) (ja_c (jc_sh (je_var (i := 1) rfl (by first | exact Or.inl rfl | exact Or.inr (Or.inl rfl) | exact Or.inr (Or.inr rfl)))) ja_nil))))) ja_nil)))) (ja_c (jc_sh je_int) ja_nil))))))
    (jss_one (js_if (PW.pt (jw_or (jt_not (jt_val (je_cell (jc_call (ok__law_right T) rfl (hr.mono (by decide)) (by rfl) T.g__law_right T.F__law_right.kp T.b__law_right (ja_c (jc_sh (je_var (i := 2) rfl (by first | exact Or.inl rfl | exact Or.inr (Or.inl rfl) | exact Or.inr (Or.inr rfl)))) ja_nil))))) (jw_or1 (jt_not (jt_val (je_cell (jc_call (ok__law_right T) rfl (hr.mono (by decide)) (by rfl) T.g__law_right T.F__law_right.kp T.b__law_right (ja_c (jc_sh (je_tup (ja_c (jc_sh (je_tup ja_nil)) (ja_c (jc_sh (je_slice (je_ix (je_var (i := 2) rfl (by first | exact Or.inl rfl | exact Or.inr (Or.inl rfl) | exact Or.inr (Or.inr rfl))) je_int (fun _ _ => rfl)) jp_none (jp_some je_int))) ja_nil)))) ja_nil))))))))
    (jss_one (js_ret (jc_sh je_bl)))
    jss_nil))))
    (jss_one (js_ret (jc_sh (je_cell (jc_call (ok__law_right T) rfl (hr.mono (by decide)) (by rfl) T.g__law_right T.F__law_right.kp T.b__law_right (ja_c (jc_sh (je_tup (ja_c (jc_sh (je_tup ja_nil)) (ja_c (jc_sh (je_tup (ja_c (jc_sh (je_tup (ja_c (jc_sh je_str) (ja_c (jc_sh (je_tup ja_nil)) ja_nil)))) (ja_c (jc_sh (je_tup (ja_c (jc_sh je_str) (ja_c (jc_sh (je_tup (ja_c (jc_sh (je_tup ja_nil)) (ja_c (jc_sh (je_tup ja_nil)) ja_nil)))) ja_nil)))) (ja_c (jc_sh (je_tup (ja_c (jc_sh je_str) (ja_c (jc_sh (je_tup (ja_c (jc_sh (je_tup ja_nil)) ja_nil))) ja_nil)))) ja_nil))))) ja_nil)))) ja_nil)))))))
end
end Ds.K06
namespace Ds.K06
open PySem PySem.Spec PyProof.Rows L2 Dn
theorem all_mk {l : PySem.W.OpenLaw} {w : World} {K : Frag} {h : Heap} {mg : Str → Option Value} {fa f0 f1 f2 f3 f4 f5 f6 f7 f8 f9 f10 f11 f12 f13 f14 f15 f16 f17 f18 f19 f20 f21 f22 f23 f24 f25 f26 f27 f28 f29 f30 f31 f32 f33 f34 f35 f36 f37 f38 f39 f40 f41 f42 f43 : Addr} {C0 : Addr} {od0 an0 : Option Addr} {sl0 : Array (Option Value)} {oc0 kV0 dc0 pm0 cd0 ct0 : Value} {od1 an1 : Option Addr} {sl1 : Array (Option Value)} {oc1 kV1 dc1 pm1 cd1 ct1 : Value} {od2 an2 : Option Addr} {sl2 : Array (Option Value)} {oc2 kV2 dc2 pm2 cd2 ct2 : Value} {od3 an3 : Option Addr} {sl3 : Array (Option Value)} {oc3 kV3 dc3 pm3 cd3 ct3 : Value} {od4 an4 : Option Addr} {sl4 : Array (Option Value)} {oc4 kV4 dc4 pm4 cd4 ct4 : Value} {od5 an5 : Option Addr} {sl5 : Array (Option Value)} {oc5 kV5 dc5 pm5 cd5 ct5 : Value} {od6 an6 : Option Addr} {sl6 : Array (Option Value)} {oc6 kV6 dc6 pm6 cd6 ct6 : Value} {od7 an7 : Option Addr} {sl7 : Array (Option Value)} {oc7 kV7 dc7 pm7 cd7 ct7 : Value} {od8 an8 : Option Addr} {sl8 : Array (Option Value)} {oc8 kV8 dc8 pm8 cd8 ct8 : Value} {od9 an9 : Option Addr} {sl9 : Array (Option Value)} {oc9 kV9 dc9 pm9 cd9 ct9 : Value} {od10 an10 : Option Addr} {sl10 : Array (Option Value)} {oc10 kV10 dc10 pm10 cd10 ct10 : Value} {od11 an11 : Option Addr} {sl11 : Array (Option Value)} {oc11 kV11 dc11 pm11 cd11 ct11 : Value} {od12 an12 : Option Addr} {sl12 : Array (Option Value)} {oc12 kV12 dc12 pm12 cd12 ct12 : Value} {od13 an13 : Option Addr} {sl13 : Array (Option Value)} {oc13 kV13 dc13 pm13 cd13 ct13 : Value} {od14 an14 : Option Addr} {sl14 : Array (Option Value)} {oc14 kV14 dc14 pm14 cd14 ct14 : Value} {od15 an15 : Option Addr} {sl15 : Array (Option Value)} {oc15 kV15 dc15 pm15 cd15 ct15 : Value} {od16 an16 : Option Addr} {sl16 : Array (Option Value)} {oc16 kV16 dc16 pm16 cd16 ct16 : Value} {od17 an17 : Option Addr} {sl17 : Array (Option Value)} {oc17 kV17 dc17 pm17 cd17 ct17 : Value} {od18 an18 : Option Addr} {sl18 : Array (Option Value)} {oc18 kV18 dc18 pm18 cd18 ct18 : Value} {od19 an19 : Option Addr} {sl19 : Array (Option Value)} {oc19 kV19 dc19 pm19 cd19 ct19 : Value} {od20 an20 : Option Addr} {sl20 : Array (Option Value)} {oc20 kV20 dc20 pm20 cd20 ct20 : Value} {od21 an21 : Option Addr} {sl21 : Array (Option Value)} {oc21 kV21 dc21 pm21 cd21 ct21 : Value} {od22 an22 : Option Addr} {sl22 : Array (Option Value)} {oc22 kV22 dc22 pm22 cd22 ct22 : Value} {od23 an23 : Option Addr} {sl23 : Array (Option Value)} {oc23 kV23 dc23 pm23 cd23 ct23 : Value} {od24 an24 : Option Addr} {sl24 : Array (Option Value)} {oc24 kV24 dc24 pm24 cd24 ct24 : Value} {od25 an25 : Option Addr} {sl25 : Array (Option Value)} {oc25 kV25 dc25 pm25 cd25 ct25 : Value} {od26 an26 : Option Addr} {sl26 : Array (Option Value)} {oc26 kV26 dc26 pm26 cd26 ct26 : Value} {od27 an27 : Option Addr} {sl27 : Array (Option Value)} {oc27 kV27 dc27 pm27 cd27 ct27 : Value} {od28 an28 : Option Addr} {sl28 : Array (Option Value)} {oc28 kV28 dc28 pm28 cd28 ct28 : Value} {od29 an29 : Option Addr} {sl29 : Array (Option Value)} {oc29 kV29 dc29 pm29 cd29 ct29 : Value} {od30 an30 : Option Addr} {sl30 : Array (Option Value)} {oc30 kV30 dc30 pm30 cd30 ct30 : Value} {od31 an31 : Option Addr} {sl31 : Array (Option Value)} {oc31 kV31 dc31 pm31 cd31 ct31 : Value} {od32 an32 : Option Addr} {sl32 : Array (Option Value)} {oc32 kV32 dc32 pm32 cd32 ct32 : Value} {od33 an33 : Option Addr} {sl33 : Array (Option Value)} {oc33 kV33 dc33 pm33 cd33 ct33 : Value} {od34 an34 : Option Addr} {sl34 : Array (Option Value)} {oc34 kV34 dc34 pm34 cd34 ct34 : Value} {od35 an35 : Option Addr} {sl35 : Array (Option Value)} {oc35 kV35 dc35 pm35 cd35 ct35 : Value} {od36 an36 : Option Addr} {sl36 : Array (Option Value)} {oc36 kV36 dc36 pm36 cd36 ct36 : Value} {od37 an37 : Option Addr} {sl37 : Array (Option Value)} {oc37 kV37 dc37 pm37 cd37 ct37 : Value} {od38 an38 : Option Addr} {sl38 : Array (Option Value)} {oc38 kV38 dc38 pm38 cd38 ct38 : Value} {od39 an39 : Option Addr} {sl39 : Array (Option Value)} {oc39 kV39 dc39 pm39 cd39 ct39 : Value} {od40 an40 : Option Addr} {sl40 : Array (Option Value)} {oc40 kV40 dc40 pm40 cd40 ct40 : Value} {od41 an41 : Option Addr} {sl41 : Array (Option Value)} {oc41 kV41 dc41 pm41 cd41 ct41 : Value} {od42 an42 : Option Addr} {sl42 : Array (Option Value)} {oc42 kV42 dc42 pm42 cd42 ct42 : Value} {od43 an43 : Option Addr} {sl43 : Array (Option Value)} {oc43 kV43 dc43 pm43 cd43 ct43 : Value} {tk0 : Tok} {tk1 : Tok} {tk2 : Tok} {tk3 : Tok} {tk4 : Tok} {tk5 : Tok} {tk6 : Tok} {tk7 : Tok} {tk8 : Tok} {q9 : Addr} {dd9 : Option Addr} {it9 : Array Value} {nn9 : Nat} {ss9 : Array (Option Value)} {kq0 : Addr} {ke0 : Array DictEntry} {kn0 : Nat} (X : K.In h) (G : h.Ns mainGlobals mg) (hfa : mg "law" = some (.ref fa))
    (a0 : PySem.W.nsIn K mainGlobals "is_name" = some (some (.ref f0)))
    (l0 : K.lookup f0 = some ⟨oc0, od0, .func (PySem.W.fnOf "is_name" "is_name" (defArgs s_is_name) (defBody s_is_name) (defScope s_is_name) .none kV0 dc0 pm0 an0 cd0 ct0), sl0⟩)
    (c0 : PySem.W.codeIn K cd0 "is_name" = true)
    (k0 : PySem.W.keepIn K (.ref f0) = true)
    (a1 : PySem.W.nsIn K mainGlobals "is_box" = some (some (.ref f1)))
    (l1 : K.lookup f1 = some ⟨oc1, od1, .func (PySem.W.fnOf "is_box" "is_box" (defArgs s_is_box) (defBody s_is_box) (defScope s_is_box) .none kV1 dc1 pm1 an1 cd1 ct1), sl1⟩)
    (c1 : PySem.W.codeIn K cd1 "is_box" = true)
    (k1 : PySem.W.keepIn K (.ref f1) = true)
    (a2 : PySem.W.nsIn K mainGlobals "is_whole" = some (some (.ref f2)))
    (l2 : K.lookup f2 = some ⟨oc2, od2, .func (PySem.W.fnOf "is_whole" "is_whole" (defArgs s_is_whole) (defBody s_is_whole) (defScope s_is_whole) .none kV2 dc2 pm2 an2 cd2 ct2), sl2⟩)
    (c2 : PySem.W.codeIn K cd2 "is_whole" = true)
    (k2 : PySem.W.keepIn K (.ref f2) = true)
    (a3 : PySem.W.nsIn K mainGlobals "are_boxes" = some (some (.ref f3)))
    (l3 : K.lookup f3 = some ⟨oc3, od3, .func (PySem.W.fnOf "are_boxes" "are_boxes" (defArgs s_are_boxes) (defBody s_are_boxes) (defScope s_are_boxes) .none kV3 dc3 pm3 an3 cd3 ct3), sl3⟩)
    (c3 : PySem.W.codeIn K cd3 "are_boxes" = true)
    (k3 : PySem.W.keepIn K (.ref f3) = true)
    (a4 : PySem.W.nsIn K mainGlobals "is_calling" = some (some (.ref f4)))
    (l4 : K.lookup f4 = some ⟨oc4, od4, .func (PySem.W.fnOf "is_calling" "is_calling" (defArgs s_is_calling) (defBody s_is_calling) (defScope s_is_calling) .none kV4 dc4 pm4 an4 cd4 ct4), sl4⟩)
    (c4 : PySem.W.codeIn K cd4 "is_calling" = true)
    (k4 : PySem.W.keepIn K (.ref f4) = true)
    (a5 : PySem.W.nsIn K mainGlobals "is_plain" = some (some (.ref f5)))
    (l5 : K.lookup f5 = some ⟨oc5, od5, .func (PySem.W.fnOf "is_plain" "is_plain" (defArgs s_is_plain) (defBody s_is_plain) (defScope s_is_plain) .none kV5 dc5 pm5 an5 cd5 ct5), sl5⟩)
    (c5 : PySem.W.codeIn K cd5 "is_plain" = true)
    (k5 : PySem.W.keepIn K (.ref f5) = true)
    (a6 : PySem.W.nsIn K mainGlobals "is_word" = some (some (.ref f6)))
    (l6 : K.lookup f6 = some ⟨oc6, od6, .func (PySem.W.fnOf "is_word" "is_word" (defArgs s_is_word) (defBody s_is_word) (defScope s_is_word) .none kV6 dc6 pm6 an6 cd6 ct6), sl6⟩)
    (c6 : PySem.W.codeIn K cd6 "is_word" = true)
    (k6 : PySem.W.keepIn K (.ref f6) = true)
    (a7 : PySem.W.nsIn K mainGlobals "is_row" = some (some (.ref f7)))
    (l7 : K.lookup f7 = some ⟨oc7, od7, .func (PySem.W.fnOf "is_row" "is_row" (defArgs s_is_row) (defBody s_is_row) (defScope s_is_row) .none kV7 dc7 pm7 an7 cd7 ct7), sl7⟩)
    (c7 : PySem.W.codeIn K cd7 "is_row" = true)
    (k7 : PySem.W.keepIn K (.ref f7) = true)
    (a8 : PySem.W.nsIn K mainGlobals "is_def" = some (some (.ref f8)))
    (l8 : K.lookup f8 = some ⟨oc8, od8, .func (PySem.W.fnOf "is_def" "is_def" (defArgs s_is_def) (defBody s_is_def) (defScope s_is_def) .none kV8 dc8 pm8 an8 cd8 ct8), sl8⟩)
    (c8 : PySem.W.codeIn K cd8 "is_def" = true)
    (k8 : PySem.W.keepIn K (.ref f8) = true)
    (a9 : PySem.W.nsIn K mainGlobals "is_program" = some (some (.ref f9)))
    (l9 : K.lookup f9 = some ⟨oc9, od9, .func (PySem.W.fnOf "is_program" "is_program" (defArgs s_is_program) (defBody s_is_program) (defScope s_is_program) .none kV9 dc9 pm9 an9 cd9 ct9), sl9⟩)
    (c9 : PySem.W.codeIn K cd9 "is_program" = true)
    (k9 : PySem.W.keepIn K (.ref f9) = true)
    (a10 : PySem.W.nsIn K mainGlobals "show_boxes" = some (some (.ref f10)))
    (l10 : K.lookup f10 = some ⟨oc10, od10, .func (PySem.W.fnOf "show_boxes" "show_boxes" (defArgs s_show_boxes) (defBody s_show_boxes) (defScope s_show_boxes) .none kV10 dc10 pm10 an10 cd10 ct10), sl10⟩)
    (c10 : PySem.W.codeIn K cd10 "show_boxes" = true)
    (k10 : PySem.W.keepIn K (.ref f10) = true)
    (a11 : PySem.W.nsIn K mainGlobals "show_rows" = some (some (.ref f11)))
    (l11 : K.lookup f11 = some ⟨oc11, od11, .func (PySem.W.fnOf "show_rows" "show_rows" (defArgs s_show_rows) (defBody s_show_rows) (defScope s_show_rows) .none kV11 dc11 pm11 an11 cd11 ct11), sl11⟩)
    (c11 : PySem.W.codeIn K cd11 "show_rows" = true)
    (k11 : PySem.W.keepIn K (.ref f11) = true)
    (a12 : PySem.W.nsIn K mainGlobals "show_word" = some (some (.ref f12)))
    (l12 : K.lookup f12 = some ⟨oc12, od12, .func (PySem.W.fnOf "show_word" "show_word" (defArgs s_show_word) (defBody s_show_word) (defScope s_show_word) .none kV12 dc12 pm12 an12 cd12 ct12), sl12⟩)
    (c12 : PySem.W.codeIn K cd12 "show_word" = true)
    (k12 : PySem.W.keepIn K (.ref f12) = true)
    (a13 : PySem.W.nsIn K mainGlobals "show_row" = some (some (.ref f13)))
    (l13 : K.lookup f13 = some ⟨oc13, od13, .func (PySem.W.fnOf "show_row" "show_row" (defArgs s_show_row) (defBody s_show_row) (defScope s_show_row) .none kV13 dc13 pm13 an13 cd13 ct13), sl13⟩)
    (c13 : PySem.W.codeIn K cd13 "show_row" = true)
    (k13 : PySem.W.keepIn K (.ref f13) = true)
    (a14 : PySem.W.nsIn K mainGlobals "show_def" = some (some (.ref f14)))
    (l14 : K.lookup f14 = some ⟨oc14, od14, .func (PySem.W.fnOf "show_def" "show_def" (defArgs s_show_def) (defBody s_show_def) (defScope s_show_def) .none kV14 dc14 pm14 an14 cd14 ct14), sl14⟩)
    (c14 : PySem.W.codeIn K cd14 "show_def" = true)
    (k14 : PySem.W.keepIn K (.ref f14) = true)
    (a15 : PySem.W.nsIn K mainGlobals "show_program" = some (some (.ref f15)))
    (l15 : K.lookup f15 = some ⟨oc15, od15, .func (PySem.W.fnOf "show_program" "show_program" (defArgs s_show_program) (defBody s_show_program) (defScope s_show_program) .none kV15 dc15 pm15 an15 cd15 ct15), sl15⟩)
    (c15 : PySem.W.codeIn K cd15 "show_program" = true)
    (k15 : PySem.W.keepIn K (.ref f15) = true)
    (a16 : PySem.W.findIn K (.ref C0) "__init__" = some (some (.ref f16)))
    (i16 : PySem.W.isFn K (.ref f16) = true)
    (l16 : K.lookup f16 = some ⟨oc16, od16, .func (PySem.W.fnOf "__init__" "Line.__init__" (defArgs s_Line___init__) (defBody s_Line___init__) (defScope s_Line___init__) .none kV16 dc16 pm16 an16 cd16 ct16), sl16⟩)
    (c16 : PySem.W.codeIn K cd16 "Line.__init__" = true)
    (k16 : PySem.W.keepIn K (.ref f16) = true)
    (a17 : PySem.W.findIn K (.ref C0) "group_ahead" = some (some (.ref f17)))
    (i17 : PySem.W.isFn K (.ref f17) = true)
    (l17 : K.lookup f17 = some ⟨oc17, od17, .func (PySem.W.fnOf "group_ahead" "Line.group_ahead" (defArgs s_Line_group_ahead) (defBody s_Line_group_ahead) (defScope s_Line_group_ahead) .none kV17 dc17 pm17 an17 cd17 ct17), sl17⟩)
    (c17 : PySem.W.codeIn K cd17 "Line.group_ahead" = true)
    (k17 : PySem.W.keepIn K (.ref f17) = true)
    (a18 : PySem.W.findIn K (.ref C0) "pulled" = some (some (.ref f18)))
    (i18 : PySem.W.isFn K (.ref f18) = true)
    (l18 : K.lookup f18 = some ⟨oc18, od18, .func (PySem.W.fnOf "pulled" "Line.pulled" (defArgs s_Line_pulled) (defBody s_Line_pulled) (defScope s_Line_pulled) .none kV18 dc18 pm18 an18 cd18 ct18), sl18⟩)
    (c18 : PySem.W.codeIn K cd18 "Line.pulled" = true)
    (k18 : PySem.W.keepIn K (.ref f18) = true)
    (a19 : PySem.W.findIn K (.ref C0) "expect" = some (some (.ref f19)))
    (i19 : PySem.W.isFn K (.ref f19) = true)
    (l19 : K.lookup f19 = some ⟨oc19, od19, .func (PySem.W.fnOf "expect" "Line.expect" (defArgs s_Line_expect) (defBody s_Line_expect) (defScope s_Line_expect) .none kV19 dc19 pm19 an19 cd19 ct19), sl19⟩)
    (c19 : PySem.W.codeIn K cd19 "Line.expect" = true)
    (k19 : PySem.W.keepIn K (.ref f19) = true)
    (a20 : PySem.W.findIn K (.ref C0) "pulled_boxes" = some (some (.ref f20)))
    (i20 : PySem.W.isFn K (.ref f20) = true)
    (l20 : K.lookup f20 = some ⟨oc20, od20, .func (PySem.W.fnOf "pulled_boxes" "Line.pulled_boxes" (defArgs s_Line_pulled_boxes) (defBody s_Line_pulled_boxes) (defScope s_Line_pulled_boxes) .none kV20 dc20 pm20 an20 cd20 ct20), sl20⟩)
    (c20 : PySem.W.codeIn K cd20 "Line.pulled_boxes" = true)
    (k20 : PySem.W.keepIn K (.ref f20) = true)
    (a21 : PySem.W.findIn K (.ref C0) "pulled_number" = some (some (.ref f21)))
    (i21 : PySem.W.isFn K (.ref f21) = true)
    (l21 : K.lookup f21 = some ⟨oc21, od21, .func (PySem.W.fnOf "pulled_number" "Line.pulled_number" (defArgs s_Line_pulled_number) (defBody s_Line_pulled_number) (defScope s_Line_pulled_number) .none kV21 dc21 pm21 an21 cd21 ct21), sl21⟩)
    (c21 : PySem.W.codeIn K cd21 "Line.pulled_number" = true)
    (k21 : PySem.W.keepIn K (.ref f21) = true)
    (a22 : PySem.W.findIn K (.ref C0) "pulled_rows" = some (some (.ref f22)))
    (i22 : PySem.W.isFn K (.ref f22) = true)
    (l22 : K.lookup f22 = some ⟨oc22, od22, .func (PySem.W.fnOf "pulled_rows" "Line.pulled_rows" (defArgs s_Line_pulled_rows) (defBody s_Line_pulled_rows) (defScope s_Line_pulled_rows) .none kV22 dc22 pm22 an22 cd22 ct22), sl22⟩)
    (c22 : PySem.W.codeIn K cd22 "Line.pulled_rows" = true)
    (k22 : PySem.W.keepIn K (.ref f22) = true)
    (a23 : PySem.W.findIn K (.ref C0) "pulled_row" = some (some (.ref f23)))
    (i23 : PySem.W.isFn K (.ref f23) = true)
    (l23 : K.lookup f23 = some ⟨oc23, od23, .func (PySem.W.fnOf "pulled_row" "Line.pulled_row" (defArgs s_Line_pulled_row) (defBody s_Line_pulled_row) (defScope s_Line_pulled_row) .none kV23 dc23 pm23 an23 cd23 ct23), sl23⟩)
    (c23 : PySem.W.codeIn K cd23 "Line.pulled_row" = true)
    (k23 : PySem.W.keepIn K (.ref f23) = true)
    (a24 : PySem.W.findIn K (.ref C0) "pulled_word" = some (some (.ref f24)))
    (i24 : PySem.W.isFn K (.ref f24) = true)
    (l24 : K.lookup f24 = some ⟨oc24, od24, .func (PySem.W.fnOf "pulled_word" "Line.pulled_word" (defArgs s_Line_pulled_word) (defBody s_Line_pulled_word) (defScope s_Line_pulled_word) .none kV24 dc24 pm24 an24 cd24 ct24), sl24⟩)
    (c24 : PySem.W.codeIn K cd24 "Line.pulled_word" = true)
    (k24 : PySem.W.keepIn K (.ref f24) = true)
    (a25 : PySem.W.findIn K (.ref C0) "pulled_def" = some (some (.ref f25)))
    (i25 : PySem.W.isFn K (.ref f25) = true)
    (l25 : K.lookup f25 = some ⟨oc25, od25, .func (PySem.W.fnOf "pulled_def" "Line.pulled_def" (defArgs s_Line_pulled_def) (defBody s_Line_pulled_def) (defScope s_Line_pulled_def) .none kV25 dc25 pm25 an25 cd25 ct25), sl25⟩)
    (c25 : PySem.W.codeIn K cd25 "Line.pulled_def" = true)
    (k25 : PySem.W.keepIn K (.ref f25) = true)
    (a26 : PySem.W.findIn K (.ref C0) "pulled_main" = some (some (.ref f26)))
    (i26 : PySem.W.isFn K (.ref f26) = true)
    (l26 : K.lookup f26 = some ⟨oc26, od26, .func (PySem.W.fnOf "pulled_main" "Line.pulled_main" (defArgs s_Line_pulled_main) (defBody s_Line_pulled_main) (defScope s_Line_pulled_main) .none kV26 dc26 pm26 an26 cd26 ct26), sl26⟩)
    (c26 : PySem.W.codeIn K cd26 "Line.pulled_main" = true)
    (k26 : PySem.W.keepIn K (.ref f26) = true)
    (a27 : PySem.W.nsIn K mainGlobals "read_lines" = some (some (.ref f27)))
    (l27 : K.lookup f27 = some ⟨oc27, od27, .func (PySem.W.fnOf "read_lines" "read_lines" (defArgs s_read_lines) (defBody s_read_lines) (defScope s_read_lines) .none kV27 dc27 pm27 an27 cd27 ct27), sl27⟩)
    (c27 : PySem.W.codeIn K cd27 "read_lines" = true)
    (k27 : PySem.W.keepIn K (.ref f27) = true)
    (a28 : PySem.W.nsIn K mainGlobals "read_program" = some (some (.ref f28)))
    (l28 : K.lookup f28 = some ⟨oc28, od28, .func (PySem.W.fnOf "read_program" "read_program" (defArgs s_read_program) (defBody s_read_program) (defScope s_read_program) .none kV28 dc28 pm28 an28 cd28 ct28), sl28⟩)
    (c28 : PySem.W.codeIn K cd28 "read_program" = true)
    (k28 : PySem.W.keepIn K (.ref f28) = true)
    (a29 : PySem.W.nsIn K mainGlobals "_law_deck" = some (some (.ref f29)))
    (l29 : K.lookup f29 = some ⟨oc29, od29, .func (PySem.W.fnOf "_law_deck" "_law_deck" (defArgs s__law_deck) (defBody s__law_deck) (defScope s__law_deck) .none kV29 dc29 pm29 an29 cd29 ct29), sl29⟩)
    (c29 : PySem.W.codeIn K cd29 "_law_deck" = true)
    (k29 : PySem.W.keepIn K (.ref f29) = true)
    (a30 : PySem.W.nsIn K mainGlobals "_law_draw" = some (some (.ref f30)))
    (l30 : K.lookup f30 = some ⟨oc30, od30, .func (PySem.W.fnOf "_law_draw" "_law_draw" (defArgs s__law_draw) (defBody s__law_draw) (defScope s__law_draw) .none kV30 dc30 pm30 an30 cd30 ct30), sl30⟩)
    (c30 : PySem.W.codeIn K cd30 "_law_draw" = true)
    (k30 : PySem.W.keepIn K (.ref f30) = true)
    (a31 : PySem.W.nsIn K mainGlobals "_law_names" = some (some (.ref f31)))
    (l31 : K.lookup f31 = some ⟨oc31, od31, .func (PySem.W.fnOf "_law_names" "_law_names" (defArgs s__law_names) (defBody s__law_names) (defScope s__law_names) .none kV31 dc31 pm31 an31 cd31 ct31), sl31⟩)
    (c31 : PySem.W.codeIn K cd31 "_law_names" = true)
    (k31 : PySem.W.keepIn K (.ref f31) = true)
    (a32 : PySem.W.nsIn K mainGlobals "_law_kit" = some (some (.ref f32)))
    (l32 : K.lookup f32 = some ⟨oc32, od32, .func (PySem.W.fnOf "_law_kit" "_law_kit" (defArgs s__law_kit) (defBody s__law_kit) (defScope s__law_kit) .none kV32 dc32 pm32 an32 cd32 ct32), sl32⟩)
    (c32 : PySem.W.codeIn K cd32 "_law_kit" = true)
    (k32 : PySem.W.keepIn K (.ref f32) = true)
    (a33 : PySem.W.nsIn K mainGlobals "_law_some" = some (some (.ref f33)))
    (l33 : K.lookup f33 = some ⟨oc33, od33, .func (PySem.W.fnOf "_law_some" "_law_some" (defArgs s__law_some) (defBody s__law_some) (defScope s__law_some) .none kV33 dc33 pm33 an33 cd33 ct33), sl33⟩)
    (c33 : PySem.W.codeIn K cd33 "_law_some" = true)
    (k33 : PySem.W.keepIn K (.ref f33) = true)
    (a34 : PySem.W.nsIn K mainGlobals "_law_unlike" = some (some (.ref f34)))
    (l34 : K.lookup f34 = some ⟨oc34, od34, .func (PySem.W.fnOf "_law_unlike" "_law_unlike" (defArgs s__law_unlike) (defBody s__law_unlike) (defScope s__law_unlike) .none kV34 dc34 pm34 an34 cd34 ct34), sl34⟩)
    (c34 : PySem.W.codeIn K cd34 "_law_unlike" = true)
    (k34 : PySem.W.keepIn K (.ref f34) = true)
    (a35 : PySem.W.nsIn K mainGlobals "_law_row" = some (some (.ref f35)))
    (l35 : K.lookup f35 = some ⟨oc35, od35, .func (PySem.W.fnOf "_law_row" "_law_row" (defArgs s__law_row) (defBody s__law_row) (defScope s__law_row) .none kV35 dc35 pm35 an35 cd35 ct35), sl35⟩)
    (c35 : PySem.W.codeIn K cd35 "_law_row" = true)
    (k35 : PySem.W.keepIn K (.ref f35) = true)
    (a36 : PySem.W.nsIn K mainGlobals "_law_word" = some (some (.ref f36)))
    (l36 : K.lookup f36 = some ⟨oc36, od36, .func (PySem.W.fnOf "_law_word" "_law_word" (defArgs s__law_word) (defBody s__law_word) (defScope s__law_word) .none kV36 dc36 pm36 an36 cd36 ct36), sl36⟩)
    (c36 : PySem.W.codeIn K cd36 "_law_word" = true)
    (k36 : PySem.W.keepIn K (.ref f36) = true)
    (a37 : PySem.W.nsIn K mainGlobals "_law_program" = some (some (.ref f37)))
    (l37 : K.lookup f37 = some ⟨oc37, od37, .func (PySem.W.fnOf "_law_program" "_law_program" (defArgs s__law_program) (defBody s__law_program) (defScope s__law_program) .none kV37 dc37 pm37 an37 cd37 ct37), sl37⟩)
    (c37 : PySem.W.codeIn K cd37 "_law_program" = true)
    (k37 : PySem.W.keepIn K (.ref f37) = true)
    (a38 : PySem.W.nsIn K mainGlobals "_law_in_brackets" = some (some (.ref f38)))
    (l38 : K.lookup f38 = some ⟨oc38, od38, .func (PySem.W.fnOf "_law_in_brackets" "_law_in_brackets" (defArgs s__law_in_brackets) (defBody s__law_in_brackets) (defScope s__law_in_brackets) .none kV38 dc38 pm38 an38 cd38 ct38), sl38⟩)
    (c38 : PySem.W.codeIn K cd38 "_law_in_brackets" = true)
    (k38 : PySem.W.keepIn K (.ref f38) = true)
    (a39 : PySem.W.nsIn K mainGlobals "_law_braced" = some (some (.ref f39)))
    (l39 : K.lookup f39 = some ⟨oc39, od39, .func (PySem.W.fnOf "_law_braced" "_law_braced" (defArgs s__law_braced) (defBody s__law_braced) (defScope s__law_braced) .none kV39 dc39 pm39 an39 cd39 ct39), sl39⟩)
    (c39 : PySem.W.codeIn K cd39 "_law_braced" = true)
    (k39 : PySem.W.keepIn K (.ref f39) = true)
    (a40 : PySem.W.nsIn K mainGlobals "_law_text" = some (some (.ref f40)))
    (l40 : K.lookup f40 = some ⟨oc40, od40, .func (PySem.W.fnOf "_law_text" "_law_text" (defArgs s__law_text) (defBody s__law_text) (defScope s__law_text) .none kV40 dc40 pm40 an40 cd40 ct40), sl40⟩)
    (c40 : PySem.W.codeIn K cd40 "_law_text" = true)
    (k40 : PySem.W.keepIn K (.ref f40) = true)
    (a41 : PySem.W.nsIn K mainGlobals "_law_plain" = some (some (.ref f41)))
    (l41 : K.lookup f41 = some ⟨oc41, od41, .func (PySem.W.fnOf "_law_plain" "_law_plain" (defArgs s__law_plain) (defBody s__law_plain) (defScope s__law_plain) .none kV41 dc41 pm41 an41 cd41 ct41), sl41⟩)
    (c41 : PySem.W.codeIn K cd41 "_law_plain" = true)
    (k41 : PySem.W.keepIn K (.ref f41) = true)
    (a42 : PySem.W.nsIn K mainGlobals "_law_right" = some (some (.ref f42)))
    (l42 : K.lookup f42 = some ⟨oc42, od42, .func (PySem.W.fnOf "_law_right" "_law_right" (defArgs s__law_right) (defBody s__law_right) (defScope s__law_right) .none kV42 dc42 pm42 an42 cd42 ct42), sl42⟩)
    (c42 : PySem.W.codeIn K cd42 "_law_right" = true)
    (k42 : PySem.W.keepIn K (.ref f42) = true)
    (a43 : PySem.W.nsIn K mainGlobals "law" = some (some (.ref f43)))
    (l43 : K.lookup f43 = some ⟨oc43, od43, .func (PySem.W.fnOf "law" "law" (defArgs s_law) (defBody s_law) (defScope s_law) .none kV43 dc43 pm43 an43 cd43 ct43), sl43⟩)
    (c43 : PySem.W.codeIn K cd43 "law" = true)
    (k43 : PySem.W.keepIn K (.ref f43) = true)
    (A0 : PySem.W.nsIn K mainGlobals "Line" = some (some (.ref C0)))
    (pg0 : PySem.W.plainGet K C0 Str.empty = true)
    (hd0 : PySem.W.hasDictIn K C0 = true)
    (po0 : PySem.W.plainOver K C0 = true)
    (mk0 : PySem.W.makesIn K C0 = true)
    (kc0 : PySem.W.keepIn K (.ref C0) = true)
    (sa0 : PySem.W.findIn K (.ref C0) "__setattr__" = some (some (.builtin "object.__setattr__")))
    (na0_0 : PySem.W.findIn K (.ref C0) "braces" = some none)
    (na0_1 : PySem.W.findIn K (.ref C0) "groups" = some none)
    (na0_2 : PySem.W.findIn K (.ref C0) "reached" = some none)
    (z0 : PySem.W.nsIn K mainGlobals "all" = some none)
    (z1 : PySem.W.nsIn K mainGlobals "bool" = some none)
    (z2 : PySem.W.nsIn K mainGlobals "enumerate" = some none)
    (z3 : PySem.W.nsIn K mainGlobals "int" = some none)
    (z4 : PySem.W.nsIn K mainGlobals "isinstance" = some none)
    (z5 : PySem.W.nsIn K mainGlobals "len" = some none)
    (z6 : PySem.W.nsIn K mainGlobals "list" = some none)
    (z7 : PySem.W.nsIn K mainGlobals "max" = some none)
    (z8 : PySem.W.nsIn K mainGlobals "min" = some none)
    (z9 : PySem.W.nsIn K mainGlobals "range" = some none)
    (z10 : PySem.W.nsIn K mainGlobals "set" = some none)
    (z11 : PySem.W.nsIn K mainGlobals "str" = some none)
    (z12 : PySem.W.nsIn K mainGlobals "tuple" = some none)
    (y0 : PySem.W.nsIn K mainGlobals "DEEPEST" = some (some (.int 150 tk0)))
    (y1 : PySem.W.nsIn K mainGlobals "FIGURES" = some (some (.str "0123456789" tk1)))
    (y2 : PySem.W.nsIn K mainGlobals "GREATEST" = some (some (.int 9999 tk2)))
    (y3 : PySem.W.nsIn K mainGlobals "LETTERS" = some (some (.str "abcdefghijklmnopqrstuvwxyz" tk3)))
    (y4 : PySem.W.nsIn K mainGlobals "LONGEST" = some (some (.int 8 tk4)))
    (y5 : PySem.W.nsIn K mainGlobals "MOST_BOXES" = some (some (.int 4 tk5)))
    (y6 : PySem.W.nsIn K mainGlobals "MOST_DEFS" = some (some (.int 6 tk6)))
    (y7 : PySem.W.nsIn K mainGlobals "MOST_FIGURES" = some (some (.int 4 tk7)))
    (y8 : PySem.W.nsIn K mainGlobals "MOST_ROWS" = some (some (.int 4 tk8)))
    (y9 : PySem.W.nsIn K mainGlobals "TONGUE" = some (some (.ref q9)))
    (yl9 : K.lookup q9 = some ⟨.type "tuple", dd9, .seq it9 nn9, ss9⟩)
    (yv9 : Vals [V.str "take", V.str "ask", V.str "number", V.str "copy", V.str "mix", V.str "open", V.str "tell", V.str "wipe", V.str "clear", V.str "drop", V.str "choose", V.str "loop", V.str "out", V.str "risk", V.str "fault", V.str "call", V.str "back", V.str "def", V.str "main"] it9.toList)
    (x0 : PySem.W.nsIn K mainGlobals "MANY_BOXES" = some (some (.ref kq0)))
    (xl0 : K.lookup kq0 = some ⟨.type "dict", none, .dict ke0 kn0, #[]⟩)
    (xk0 : PySem.W.KeysLit w.params ke0.toList)
    (xe0 : KVs K ke0.toList v_MANY_BOXES)
    (xo0 : (kq0 == sysModules) = false) :
    ∃ fd : FuncData, (∀ (s : Shared) (v : Value), BindsTo s fd ⟨[v], []⟩ [("_law_script", v)]) ∧ ∀ base : Heap, K.In base → base.Ns mainGlobals mg → FnOk l.prog w K mg base CX0 29 fa fd ["_law_script"] (spF K 1 f_law) := by
  have e := hfa.symm.trans (PySem.W.mg_of X G a43)
  cases e
  have F0 := fun_mk (st := s_is_name) l0 c0 k0
  have b0 := F0.binds (ps := ["thing"]) fun _ _ _ _ _ _ us hl => match us, hl with | [_], _ => rfl
  have F1 := fun_mk (st := s_is_box) l1 c1 k1
  have b1 := F1.binds (ps := ["thing"]) fun _ _ _ _ _ _ us hl => match us, hl with | [_], _ => rfl
  have F2 := fun_mk (st := s_is_whole) l2 c2 k2
  have b2 := F2.binds (ps := ["thing", "least", "most"]) fun _ _ _ _ _ _ us hl => match us, hl with | [_, _, _], _ => rfl
  have F3 := fun_mk (st := s_are_boxes) l3 c3 k3
  have b3 := F3.binds (ps := ["thing"]) fun _ _ _ _ _ _ us hl => match us, hl with | [_], _ => rfl
  have F4 := fun_mk (st := s_is_calling) l4 c4 k4
  have b4 := F4.binds (ps := ["rest", "known"]) fun _ _ _ _ _ _ us hl => match us, hl with | [_, _], _ => rfl
  have F5 := fun_mk (st := s_is_plain) l5 c5 k5
  have b5 := F5.binds (ps := ["word", "rest"]) fun _ _ _ _ _ _ us hl => match us, hl with | [_, _], _ => rfl
  have F6 := fun_mk (st := s_is_word) l6 c6 k6
  have b6 := F6.binds (ps := ["thing", "known", "around"]) fun _ _ _ _ _ _ us hl => match us, hl with | [_, _, _], _ => rfl
  have F7 := fun_mk (st := s_is_row) l7 c7 k7
  have b7 := F7.binds (ps := ["thing", "known", "around"]) fun _ _ _ _ _ _ us hl => match us, hl with | [_, _, _], _ => rfl
  have F8 := fun_mk (st := s_is_def) l8 c8 k8
  have b8 := F8.binds (ps := ["thing", "known"]) fun _ _ _ _ _ _ us hl => match us, hl with | [_, _], _ => rfl
  have F9 := fun_mk (st := s_is_program) l9 c9 k9
  have b9 := F9.binds (ps := ["thing"]) fun _ _ _ _ _ _ us hl => match us, hl with | [_], _ => rfl
  have F10 := fun_mk (st := s_show_boxes) l10 c10 k10
  have b10 := F10.binds (ps := ["boxes"]) fun _ _ _ _ _ _ us hl => match us, hl with | [_], _ => rfl
  have F11 := fun_mk (st := s_show_rows) l11 c11 k11
  have b11 := F11.binds (ps := ["rows"]) fun _ _ _ _ _ _ us hl => match us, hl with | [_], _ => rfl
  have F12 := fun_mk (st := s_show_word) l12 c12 k12
  have b12 := F12.binds (ps := ["word"]) fun _ _ _ _ _ _ us hl => match us, hl with | [_], _ => rfl
  have F13 := fun_mk (st := s_show_row) l13 c13 k13
  have b13 := F13.binds (ps := ["row"]) fun _ _ _ _ _ _ us hl => match us, hl with | [_], _ => rfl
  have F14 := fun_mk (st := s_show_def) l14 c14 k14
  have b14 := F14.binds (ps := ["one"]) fun _ _ _ _ _ _ us hl => match us, hl with | [_], _ => rfl
  have F15 := fun_mk (st := s_show_program) l15 c15 k15
  have b15 := F15.binds (ps := ["program"]) fun _ _ _ _ _ _ us hl => match us, hl with | [_], _ => rfl
  have F16 := fun_mk (st := s_Line___init__) l16 c16 k16
  have b16 := F16.binds (ps := ["self", "text"]) fun _ _ _ _ _ _ us hl => match us, hl with | [_, _], _ => rfl
  have F17 := fun_mk (st := s_Line_group_ahead) l17 c17 k17
  have b17 := F17.binds (ps := ["self"]) fun _ _ _ _ _ _ us hl => match us, hl with | [_], _ => rfl
  have F18 := fun_mk (st := s_Line_pulled) l18 c18 k18
  have b18 := F18.binds (ps := ["self"]) fun _ _ _ _ _ _ us hl => match us, hl with | [_], _ => rfl
  have F19 := fun_mk (st := s_Line_expect) l19 c19 k19
  have b19 := F19.binds (ps := ["self", "group"]) fun _ _ _ _ _ _ us hl => match us, hl with | [_, _], _ => rfl
  have F20 := fun_mk (st := s_Line_pulled_boxes) l20 c20 k20
  have b20 := F20.binds (ps := ["self"]) fun _ _ _ _ _ _ us hl => match us, hl with | [_], _ => rfl
  have F21 := fun_mk (st := s_Line_pulled_number) l21 c21 k21
  have b21 := F21.binds (ps := ["self"]) fun _ _ _ _ _ _ us hl => match us, hl with | [_], _ => rfl
  have F22 := fun_mk (st := s_Line_pulled_rows) l22 c22 k22
  have b22 := F22.binds (ps := ["self"]) fun _ _ _ _ _ _ us hl => match us, hl with | [_], _ => rfl
  have F23 := fun_mk (st := s_Line_pulled_row) l23 c23 k23
  have b23 := F23.binds (ps := ["self"]) fun _ _ _ _ _ _ us hl => match us, hl with | [_], _ => rfl
  have F24 := fun_mk (st := s_Line_pulled_word) l24 c24 k24
  have b24 := F24.binds (ps := ["self"]) fun _ _ _ _ _ _ us hl => match us, hl with | [_], _ => rfl
  have F25 := fun_mk (st := s_Line_pulled_def) l25 c25 k25
  have b25 := F25.binds (ps := ["self"]) fun _ _ _ _ _ _ us hl => match us, hl with | [_], _ => rfl
  have F26 := fun_mk (st := s_Line_pulled_main) l26 c26 k26
  have b26 := F26.binds (ps := ["self"]) fun _ _ _ _ _ _ us hl => match us, hl with | [_], _ => rfl
  have F27 := fun_mk (st := s_read_lines) l27 c27 k27
  have b27 := F27.binds (ps := ["lines"]) fun _ _ _ _ _ _ us hl => match us, hl with | [_], _ => rfl
  have F28 := fun_mk (st := s_read_program) l28 c28 k28
  have b28 := F28.binds (ps := ["text"]) fun _ _ _ _ _ _ us hl => match us, hl with | [_], _ => rfl
  have F29 := fun_mk (st := s__law_deck) l29 c29 k29
  have b29 := F29.binds (ps := ["_law_script", "_law_k"]) fun _ _ _ _ _ _ us hl => match us, hl with | [_, _], _ => rfl
  have F30 := fun_mk (st := s__law_draw) l30 c30 k30
  have b30 := F30.binds (ps := ["_law_deck_here", "_law_many"]) fun _ _ _ _ _ _ us hl => match us, hl with | [_, _], _ => rfl
  have F31 := fun_mk (st := s__law_names) l31 c31 k31
  have b31 := F31.binds (ps := ["_law_deck_here", "_law_many"]) fun _ _ _ _ _ _ us hl => match us, hl with | [_, _], _ => rfl
  have F32 := fun_mk (st := s__law_kit) l32 c32 k32
  have b32 := F32.binds (ps := ["_law_deck_here"]) fun _ _ _ _ _ _ us hl => match us, hl with | [_], _ => rfl
  have F33 := fun_mk (st := s__law_some) l33 c33 k33
  have b33 := F33.binds (ps := ["_law_kit_here", "_law_things"]) fun _ _ _ _ _ _ us hl => match us, hl with | [_, _], _ => rfl
  have F34 := fun_mk (st := s__law_unlike) l34 c34 k34
  have b34 := F34.binds (ps := ["_law_kit_here", "_law_many"]) fun _ _ _ _ _ _ us hl => match us, hl with | [_, _], _ => rfl
  have F35 := fun_mk (st := s__law_row) l35 c35 k35
  have b35 := F35.binds (ps := ["_law_kit_here", "_law_deep", "_law_many", "_law_loops"]) fun _ _ _ _ _ _ us hl => match us, hl with | [_, _, _, _], _ => rfl
  have F36 := fun_mk (st := s__law_word) l36 c36 k36
  have b36 := F36.binds (ps := ["_law_kit_here", "_law_deep", "_law_loops", "_law_way"]) fun _ _ _ _ _ _ us hl => match us, hl with | [_, _, _, _], _ => rfl
  have F37 := fun_mk (st := s__law_program) l37 c37 k37
  have b37 := F37.binds (ps := ["_law_kit_here", "_law_most"]) fun _ _ _ _ _ _ us hl => match us, hl with | [_, _], _ => rfl
  have F38 := fun_mk (st := s__law_in_brackets) l38 c38 k38
  have b38 := F38.binds (ps := ["_law_boxes"]) fun _ _ _ _ _ _ us hl => match us, hl with | [_], _ => rfl
  have F39 := fun_mk (st := s__law_braced) l39 c39 k39
  have b39 := F39.binds (ps := ["_law_rows"]) fun _ _ _ _ _ _ us hl => match us, hl with | [_], _ => rfl
  have F40 := fun_mk (st := s__law_text) l40 c40 k40
  have b40 := F40.binds (ps := ["_law_row_here"]) fun _ _ _ _ _ _ us hl => match us, hl with | [_], _ => rfl
  have F41 := fun_mk (st := s__law_plain) l41 c41 k41
  have b41 := F41.binds (ps := ["_law_thing"]) fun _ _ _ _ _ _ us hl => match us, hl with | [_], _ => rfl
  have F42 := fun_mk (st := s__law_right) l42 c42 k42
  have b42 := F42.binds (ps := ["_law_program_here"]) fun _ _ _ _ _ _ us hl => match us, hl with | [_], _ => rfl
  have F43 := fun_mk (st := s_law) l43 c43 k43
  have b43 := F43.binds (ps := ["_law_script"]) fun _ _ _ _ _ _ us hl => match us, hl with | [_], _ => rfl
  have vl9 := yv9.length
  have hq9 : ∀ H, Rp K H (.ref q9) c_TONGUE := fun H => .tup (.inr ⟨_, _, _, yl9, rfl, rfl, by rw [← Array.length_toList, ← vl9]; decide, yv9⟩) (Rps.of_strs ["take", "ask", "number", "copy", "mix", "open", "tell", "wipe", "clear", "drop", "choose", "loop", "out", "risk", "fault", "call", "back", "def", "main"])
  have T : Tx w K mg := ⟨_, _, F0, b0, PySem.W.mg_of X G a0, _, _, F1, b1, PySem.W.mg_of X G a1, _, _, F2, b2, PySem.W.mg_of X G a2, _, _, F3, b3, PySem.W.mg_of X G a3, _, _, F4, b4, PySem.W.mg_of X G a4, _, _, F5, b5, PySem.W.mg_of X G a5, _, _, F6, b6, PySem.W.mg_of X G a6, _, _, F7, b7, PySem.W.mg_of X G a7, _, _, F8, b8, PySem.W.mg_of X G a8, _, _, F9, b9, PySem.W.mg_of X G a9, _, _, F10, b10, PySem.W.mg_of X G a10, _, _, F11, b11, PySem.W.mg_of X G a11, _, _, F12, b12, PySem.W.mg_of X G a12, _, _, F13, b13, PySem.W.mg_of X G a13, _, _, F14, b14, PySem.W.mg_of X G a14, _, _, F15, b15, PySem.W.mg_of X G a15, _, _, F16, b16, _, _, F17, b17, _, _, F18, b18, _, _, F19, b19, _, _, F20, b20, _, _, F21, b21, _, _, F22, b22, _, _, F23, b23, _, _, F24, b24, _, _, F25, b25, _, _, F26, b26, _, _, F27, b27, PySem.W.mg_of X G a27, _, _, F28, b28, PySem.W.mg_of X G a28, _, _, F29, b29, PySem.W.mg_of X G a29, _, _, F30, b30, PySem.W.mg_of X G a30, _, _, F31, b31, PySem.W.mg_of X G a31, _, _, F32, b32, PySem.W.mg_of X G a32, _, _, F33, b33, PySem.W.mg_of X G a33, _, _, F34, b34, PySem.W.mg_of X G a34, _, _, F35, b35, PySem.W.mg_of X G a35, _, _, F36, b36, PySem.W.mg_of X G a36, _, _, F37, b37, PySem.W.mg_of X G a37, _, _, F38, b38, PySem.W.mg_of X G a38, _, _, F39, b39, PySem.W.mg_of X G a39, _, _, F40, b40, PySem.W.mg_of X G a40, _, _, F41, b41, PySem.W.mg_of X G a41, _, _, F42, b42, PySem.W.mg_of X G a42, _, _, F43, b43, PySem.W.mg_of X G a43, PySem.W.mg_none_of X G z0, PySem.W.mg_none_of X G z1, PySem.W.mg_none_of X G z2, PySem.W.mg_none_of X G z3, PySem.W.mg_none_of X G z4, PySem.W.mg_none_of X G z5, PySem.W.mg_none_of X G z6, PySem.W.mg_none_of X G z7, PySem.W.mg_none_of X G z8, PySem.W.mg_none_of X G z9, PySem.W.mg_none_of X G z10, PySem.W.mg_none_of X G z11, PySem.W.mg_none_of X G z12, _, (.int 150), PySem.W.mg_of X G y0, ⟨_, rfl⟩, fun H => .int _, _, (.str "0123456789"), PySem.W.mg_of X G y1, ⟨_, rfl⟩, fun H => .str _, _, (.int 9999), PySem.W.mg_of X G y2, ⟨_, rfl⟩, fun H => .int _, _, (.str "abcdefghijklmnopqrstuvwxyz"), PySem.W.mg_of X G y3, ⟨_, rfl⟩, fun H => .str _, _, (.int 8), PySem.W.mg_of X G y4, ⟨_, rfl⟩, fun H => .int _, _, (.int 4), PySem.W.mg_of X G y5, ⟨_, rfl⟩, fun H => .int _, _, (.int 6), PySem.W.mg_of X G y6, ⟨_, rfl⟩, fun H => .int _, _, (.int 4), PySem.W.mg_of X G y7, ⟨_, rfl⟩, fun H => .int _, _, (.int 4), PySem.W.mg_of X G y8, ⟨_, rfl⟩, fun H => .int _, _, (.ref q9), PySem.W.mg_of X G y9, rfl, hq9, _, PySem.W.mg_of X G x0, ⟨_, _, ⟨xl0, xk0, xo0⟩, xe0⟩, _, clsA_of A0, ⟨pg0, hd0, po0, sa0⟩, PySem.W.mg_of X G A0, ⟨mk0, a16, i16, kc0⟩, ⟨a17, i17, k17⟩, ⟨a18, i18, k18⟩, ⟨a19, i19, k19⟩, ⟨a20, i20, k20⟩, ⟨a21, i21, k21⟩, ⟨a22, i22, k22⟩, ⟨a23, i23, k23⟩, ⟨a24, i24, k24⟩, ⟨a25, i25, k25⟩, ⟨a26, i26, k26⟩, na0_0, na0_1, na0_2⟩
  exact ⟨_, fun s v => .of_eq rfl, fun base _ _ => ok_law ⟨_, _, F0, b0, PySem.W.mg_of X G a0, _, _, F1, b1, PySem.W.mg_of X G a1, _, _, F2, b2, PySem.W.mg_of X G a2, _, _, F3, b3, PySem.W.mg_of X G a3, _, _, F4, b4, PySem.W.mg_of X G a4, _, _, F5, b5, PySem.W.mg_of X G a5, _, _, F6, b6, PySem.W.mg_of X G a6, _, _, F7, b7, PySem.W.mg_of X G a7, _, _, F8, b8, PySem.W.mg_of X G a8, _, _, F9, b9, PySem.W.mg_of X G a9, _, _, F10, b10, PySem.W.mg_of X G a10, _, _, F11, b11, PySem.W.mg_of X G a11, _, _, F12, b12, PySem.W.mg_of X G a12, _, _, F13, b13, PySem.W.mg_of X G a13, _, _, F14, b14, PySem.W.mg_of X G a14, _, _, F15, b15, PySem.W.mg_of X G a15, _, _, F16, b16, _, _, F17, b17, _, _, F18, b18, _, _, F19, b19, _, _, F20, b20, _, _, F21, b21, _, _, F22, b22, _, _, F23, b23, _, _, F24, b24, _, _, F25, b25, _, _, F26, b26, _, _, F27, b27, PySem.W.mg_of X G a27, _, _, F28, b28, PySem.W.mg_of X G a28, _, _, F29, b29, PySem.W.mg_of X G a29, _, _, F30, b30, PySem.W.mg_of X G a30, _, _, F31, b31, PySem.W.mg_of X G a31, _, _, F32, b32, PySem.W.mg_of X G a32, _, _, F33, b33, PySem.W.mg_of X G a33, _, _, F34, b34, PySem.W.mg_of X G a34, _, _, F35, b35, PySem.W.mg_of X G a35, _, _, F36, b36, PySem.W.mg_of X G a36, _, _, F37, b37, PySem.W.mg_of X G a37, _, _, F38, b38, PySem.W.mg_of X G a38, _, _, F39, b39, PySem.W.mg_of X G a39, _, _, F40, b40, PySem.W.mg_of X G a40, _, _, F41, b41, PySem.W.mg_of X G a41, _, _, F42, b42, PySem.W.mg_of X G a42, _, _, F43, b43, PySem.W.mg_of X G a43, PySem.W.mg_none_of X G z0, PySem.W.mg_none_of X G z1, PySem.W.mg_none_of X G z2, PySem.W.mg_none_of X G z3, PySem.W.mg_none_of X G z4, PySem.W.mg_none_of X G z5, PySem.W.mg_none_of X G z6, PySem.W.mg_none_of X G z7, PySem.W.mg_none_of X G z8, PySem.W.mg_none_of X G z9, PySem.W.mg_none_of X G z10, PySem.W.mg_none_of X G z11, PySem.W.mg_none_of X G z12, _, (.int 150), PySem.W.mg_of X G y0, ⟨_, rfl⟩, fun H => .int _, _, (.str "0123456789"), PySem.W.mg_of X G y1, ⟨_, rfl⟩, fun H => .str _, _, (.int 9999), PySem.W.mg_of X G y2, ⟨_, rfl⟩, fun H => .int _, _, (.str "abcdefghijklmnopqrstuvwxyz"), PySem.W.mg_of X G y3, ⟨_, rfl⟩, fun H => .str _, _, (.int 8), PySem.W.mg_of X G y4, ⟨_, rfl⟩, fun H => .int _, _, (.int 4), PySem.W.mg_of X G y5, ⟨_, rfl⟩, fun H => .int _, _, (.int 6), PySem.W.mg_of X G y6, ⟨_, rfl⟩, fun H => .int _, _, (.int 4), PySem.W.mg_of X G y7, ⟨_, rfl⟩, fun H => .int _, _, (.int 4), PySem.W.mg_of X G y8, ⟨_, rfl⟩, fun H => .int _, _, (.ref q9), PySem.W.mg_of X G y9, rfl, hq9, _, PySem.W.mg_of X G x0, ⟨_, _, ⟨xl0, xk0, xo0⟩, xe0⟩, _, clsA_of A0, ⟨pg0, hd0, po0, sa0⟩, PySem.W.mg_of X G A0, ⟨mk0, a16, i16, kc0⟩, ⟨a17, i17, k17⟩, ⟨a18, i18, k18⟩, ⟨a19, i19, k19⟩, ⟨a20, i20, k20⟩, ⟨a21, i21, k21⟩, ⟨a22, i22, k22⟩, ⟨a23, i23, k23⟩, ⟨a24, i24, k24⟩, ⟨a25, i25, k25⟩, ⟨a26, i26, k26⟩, na0_0, na0_1, na0_2⟩⟩
theorem sp_law (hg : Good) {K : Frag} {H : Hp} {a : Addr} {ns : List Int} (hl : ns.length ≤ 63) (hS : SqL K H a (ns.map V.int)) : spF K 1 f_law [.ref a] H (fun v _ => v = .bl true) fun _ _ _ => False := by
  obtain ⟨δ, hδ⟩ := hg ns hl
  refine ⟨rfl, fun _ => none, ⟨[], H⟩, [.sh (.list (ns.map PyData.int))], [], ?_, .cons (.sh (.lst hS (Rps.of_ints ns))) .nil, ?_⟩
  · exact {
      ex := Ex.refl H
      fg := fun a o q => nomatch q
      len := rfl
      rl := rfl
      sl := fun i c q _ => by simp at q
      ob := fun i c q _ => by simp at q
      nd := List.nodup_nil
      al := fun a ha => by simp at ha
      nt := fun a xs _ => ⟨by simp, rfl⟩
      fz := fun l kvs q => by simp at q }
  · rw [hδ]
    intro g' H' e r v rv
    cases rv with
    | sh h =>
      cases h
      rfl
end Ds.K06
open PySem PySem.W PyProof.Rows
set_option maxHeartbeats 0 in
theorem PySem.Challenge.cw_wipeways_k06_programs_written_holds : PySem.Challenge.rw_wipeways_k06_programs_written.Holds := by
  w_on; o_law; k_head; (case hw => w_witness2)
  k_fill
  refine L2.walk_of (l := PySem.Challenge.rw_wipeways_k06_programs_written) (n := 63) (k := 29) (x := "_law_script") (CX := fun _ => L2.CX0) (sp := fun w => Ds.spF _ 1 Ds.K06.f_law) rfl (by decide) rfl ⟨rfl, by decide, by decide⟩ (fun w h Y => PySem.W.kIn_of Y) ?F (fun _ _ a ns hl _ hS => Ds.K06.sp_law Ds.K06.good hl hS) (fun _ _ _ _ _ h => h)
  case F =>
    intro w mg fa h KX G hmg
    refine' Ds.K06.all_mk KX G hmg ?a0 ?l0 ?c0 ?k0 ?a1 ?l1 ?c1 ?k1 ?a2 ?l2 ?c2 ?k2 ?a3 ?l3 ?c3 ?k3 ?a4 ?l4 ?c4 ?k4 ?a5 ?l5 ?c5 ?k5 ?a6 ?l6 ?c6 ?k6 ?a7 ?l7 ?c7 ?k7 ?a8 ?l8 ?c8 ?k8 ?a9 ?l9 ?c9 ?k9 ?a10 ?l10 ?c10 ?k10 ?a11 ?l11 ?c11 ?k11 ?a12 ?l12 ?c12 ?k12 ?a13 ?l13 ?c13 ?k13 ?a14 ?l14 ?c14 ?k14 ?a15 ?l15 ?c15 ?k15 ?a16 ?i16 ?l16 ?c16 ?k16 ?a17 ?i17 ?l17 ?c17 ?k17 ?a18 ?i18 ?l18 ?c18 ?k18 ?a19 ?i19 ?l19 ?c19 ?k19 ?a20 ?i20 ?l20 ?c20 ?k20 ?a21 ?i21 ?l21 ?c21 ?k21 ?a22 ?i22 ?l22 ?c22 ?k22 ?a23 ?i23 ?l23 ?c23 ?k23 ?a24 ?i24 ?l24 ?c24 ?k24 ?a25 ?i25 ?l25 ?c25 ?k25 ?a26 ?i26 ?l26 ?c26 ?k26 ?a27 ?l27 ?c27 ?k27 ?a28 ?l28 ?c28 ?k28 ?a29 ?l29 ?c29 ?k29 ?a30 ?l30 ?c30 ?k30 ?a31 ?l31 ?c31 ?k31 ?a32 ?l32 ?c32 ?k32 ?a33 ?l33 ?c33 ?k33 ?a34 ?l34 ?c34 ?k34 ?a35 ?l35 ?c35 ?k35 ?a36 ?l36 ?c36 ?k36 ?a37 ?l37 ?c37 ?k37 ?a38 ?l38 ?c38 ?k38 ?a39 ?l39 ?c39 ?k39 ?a40 ?l40 ?c40 ?k40 ?a41 ?l41 ?c41 ?k41 ?a42 ?l42 ?c42 ?k42 ?a43 ?l43 ?c43 ?k43 ?A0 ?pg0 ?hd0 ?po0 ?mk0 ?kc0 ?sa0 ?na0_0 ?na0_1 ?na0_2 ?z0 ?z1 ?z2 ?z3 ?z4 ?z5 ?z6 ?z7 ?z8 ?z9 ?z10 ?z11 ?z12 ?y0 ?y1 ?y2 ?y3 ?y4 ?y5 ?y6 ?y7 ?y8 ?y9 ?yl9 ?yv9 ?x0 ?xl0 ?xk0 ?xe0 ?xo0
    (case A0 => k_is)
    (case a0 => k_is)
    (case l0 => k_is)
    (case c0 => k_is)
    (case k0 => k_is)
    (case a1 => k_is)
    (case l1 => k_is)
    (case c1 => k_is)
    (case k1 => k_is)
    (case a2 => k_is)
    (case l2 => k_is)
    (case c2 => k_is)
    (case k2 => k_is)
    (case a3 => k_is)
    (case l3 => k_is)
    (case c3 => k_is)
    (case k3 => k_is)
    (case a4 => k_is)
    (case l4 => k_is)
    (case c4 => k_is)
    (case k4 => k_is)
    (case a5 => k_is)
    (case l5 => k_is)
    (case c5 => k_is)
    (case k5 => k_is)
    (case a6 => k_is)
    (case l6 => k_is)
    (case c6 => k_is)
    (case k6 => k_is)
    (case a7 => k_is)
    (case l7 => k_is)
    (case c7 => k_is)
    (case k7 => k_is)
    (case a8 => k_is)
    (case l8 => k_is)
    (case c8 => k_is)
    (case k8 => k_is)
    (case a9 => k_is)
    (case l9 => k_is)
    (case c9 => k_is)
    (case k9 => k_is)
    (case a10 => k_is)
    (case l10 => k_is)
    (case c10 => k_is)
    (case k10 => k_is)
    (case a11 => k_is)
    (case l11 => k_is)
    (case c11 => k_is)
    (case k11 => k_is)
    (case a12 => k_is)
    (case l12 => k_is)
    (case c12 => k_is)
    (case k12 => k_is)
    (case a13 => k_is)
    (case l13 => k_is)
    (case c13 => k_is)
    (case k13 => k_is)
    (case a14 => k_is)
    (case l14 => k_is)
    (case c14 => k_is)
    (case k14 => k_is)
    (case a15 => k_is)
    (case l15 => k_is)
    (case c15 => k_is)
    (case k15 => k_is)
    (case a16 => k_is)
    (case i16 => k_is)
    (case l16 => k_is)
    (case c16 => k_is)
    (case k16 => k_is)
    (case a17 => k_is)
    (case i17 => k_is)
    (case l17 => k_is)
    (case c17 => k_is)
    (case k17 => k_is)
    (case a18 => k_is)
    (case i18 => k_is)
    (case l18 => k_is)
    (case c18 => k_is)
    (case k18 => k_is)
    (case a19 => k_is)
    (case i19 => k_is)
    (case l19 => k_is)
    (case c19 => k_is)
    (case k19 => k_is)
    (case a20 => k_is)
    (case i20 => k_is)
    (case l20 => k_is)
    (case c20 => k_is)
    (case k20 => k_is)
    (case a21 => k_is)
    (case i21 => k_is)
    (case l21 => k_is)
    (case c21 => k_is)
    (case k21 => k_is)
    (case a22 => k_is)
    (case i22 => k_is)
    (case l22 => k_is)
    (case c22 => k_is)
    (case k22 => k_is)
    (case a23 => k_is)
    (case i23 => k_is)
    (case l23 => k_is)
    (case c23 => k_is)
    (case k23 => k_is)
    (case a24 => k_is)
    (case i24 => k_is)
    (case l24 => k_is)
    (case c24 => k_is)
    (case k24 => k_is)
    (case a25 => k_is)
    (case i25 => k_is)
    (case l25 => k_is)
    (case c25 => k_is)
    (case k25 => k_is)
    (case a26 => k_is)
    (case i26 => k_is)
    (case l26 => k_is)
    (case c26 => k_is)
    (case k26 => k_is)
    (case a27 => k_is)
    (case l27 => k_is)
    (case c27 => k_is)
    (case k27 => k_is)
    (case a28 => k_is)
    (case l28 => k_is)
    (case c28 => k_is)
    (case k28 => k_is)
    (case a29 => k_is)
    (case l29 => k_is)
    (case c29 => k_is)
    (case k29 => k_is)
    (case a30 => k_is)
    (case l30 => k_is)
    (case c30 => k_is)
    (case k30 => k_is)
    (case a31 => k_is)
    (case l31 => k_is)
    (case c31 => k_is)
    (case k31 => k_is)
    (case a32 => k_is)
    (case l32 => k_is)
    (case c32 => k_is)
    (case k32 => k_is)
    (case a33 => k_is)
    (case l33 => k_is)
    (case c33 => k_is)
    (case k33 => k_is)
    (case a34 => k_is)
    (case l34 => k_is)
    (case c34 => k_is)
    (case k34 => k_is)
    (case a35 => k_is)
    (case l35 => k_is)
    (case c35 => k_is)
    (case k35 => k_is)
    (case a36 => k_is)
    (case l36 => k_is)
    (case c36 => k_is)
    (case k36 => k_is)
    (case a37 => k_is)
    (case l37 => k_is)
    (case c37 => k_is)
    (case k37 => k_is)
    (case a38 => k_is)
    (case l38 => k_is)
    (case c38 => k_is)
    (case k38 => k_is)
    (case a39 => k_is)
    (case l39 => k_is)
    (case c39 => k_is)
    (case k39 => k_is)
    (case a40 => k_is)
    (case l40 => k_is)
    (case c40 => k_is)
    (case k40 => k_is)
    (case a41 => k_is)
    (case l41 => k_is)
    (case c41 => k_is)
    (case k41 => k_is)
    (case a42 => k_is)
    (case l42 => k_is)
    (case c42 => k_is)
    (case k42 => k_is)
    (case a43 => k_is)
    (case l43 => k_is)
    (case c43 => k_is)
    (case k43 => k_is)
    (case pg0 => k_is)
    (case hd0 => k_is)
    (case po0 => k_is)
    (case mk0 => k_is)
    (case kc0 => k_is)
    (case sa0 => k_is)
    (case na0_0 => k_is)
    (case na0_1 => k_is)
    (case na0_2 => k_is)
    (case z0 => k_is)
    (case z1 => k_is)
    (case z2 => k_is)
    (case z3 => k_is)
    (case z4 => k_is)
    (case z5 => k_is)
    (case z6 => k_is)
    (case z7 => k_is)
    (case z8 => k_is)
    (case z9 => k_is)
    (case z10 => k_is)
    (case z11 => k_is)
    (case z12 => k_is)
    (case y0 => k_is)
    (case y1 => k_is)
    (case y2 => k_is)
    (case y3 => k_is)
    (case y4 => k_is)
    (case y5 => k_is)
    (case y6 => k_is)
    (case y7 => k_is)
    (case y8 => k_is)
    (case y9 => k_is)
    (case yl9 => k_is)
    (case yv9 => repeat (first | exact Paired.nil | refine Paired.cons ⟨_, rfl⟩ ?_))
    (case x0 => k_is)
    (case xl0 => k_is)
    (case xk0 => k_keys)
    (case xe0 => repeat (first | exact Ds.KVs.nil | refine Ds.KVs.cons (v := .str _) rfl ⟨_, rfl⟩ (fun H => Dn.Rp.str _) ?_ | refine Ds.KVs.cons (v := .int _) rfl ⟨_, rfl⟩ (fun H => Dn.Rp.int _) ?_))
    (case xo0 => decide)
