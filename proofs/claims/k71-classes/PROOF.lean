import PyProof.Rows.All
import Wide.All
import OpenK.AllK
import Wide.FinOn
import HandS.ForMost
import HandS.Walk
import HandS.Codes
import HandS.Property
import HandS.Wide
import HandS.Zip
import HandS.Style
import HandS.TupAny
import HandS.WordsExc
import HandS.IsInst
import HandS.Defaults
import HandS.HeadHook1
import HandS.HeadHook2
import HandS.HeadHook3
import HandS.HeadHook4
import KE.KStateDown
import HandS.Head0
import HandS.Head1
import HandS.Head2
import HandS.HeadEnd
import HandS.Deep
import HandS.Conv
import HandS.Comp
import HandS.Dict
import KE.GoesEnum
import PyProof.DictStraight
import PyProof.DictRoads
import HandS.OwnEq
import HandS.More
import KE.GoesZip
import KE.GoesMore
import KE.DataMinMax
import KE.DatumOrd
import HandS.TupSets
import KE.SortData
import KE.KDictList
import KE.DataMinKey
import HandS.SortKw
import HandS.DictComp
import KE.KDictSum
import PySem.Challenge.RW_formworld_k71_whole_one_truth_of_what_cl
set_option Elab.async false
set_option linter.all false
set_option maxRecDepth 100000
set_option maxHeartbeats 4000000
/-! The data layer: what an expression, a statement, a def computes over plain data, whatever the heap. -/
namespace L3
open PySem L2

/-! ### data -/
inductive Dat where
  | non | bl (b : Bool) | int (i : Int) | str (s : Str) | tup (ds : List Dat) | lst (ds : List Dat) | frm (a b c : Int) | dic (ks : List Int) (ds : List Dat)

abbrev Le (H H' : Hp) : Prop := ∀ a o, H a = some o → H' a = some o
theorem Le.refl (H : Hp) : Le H H := fun _ _ h => h
theorem Le.trans {H H1 H2 : Hp} (a : Le H H1) (b : Le H1 H2) : Le H H2 := fun x o h => b x o (a x o h)
theorem Le.new {H : Hp} {p : Addr} {o : HO} (h : H p = none) : Le H (upd H p o) := fun a u e => by
  rw [upd_ne (ne_of_none e h)]; exact e
theorem Le.free {H H' : Hp} (e : Le H H') {p : Addr} (h : H' p = none) : H p = none := by
  cases q : H p with
  | none => rfl
  | some o => rw [e p o q] at h; cases h

/-- a Form of two unknowns stands at p -/
def FormAt (C : Addr) (H : Hp) (p : Addr) (a b c : Int) : Prop :=
  ∃ (dx t q r r1 r2 : Addr) (m sg kd : V) (w : Str), H p = some (.ins C dx [("held", .ref t), ("words", .str w)]) ∧ H t = some (.tup [.ref q, .ref r, m, sg, kd]) ∧
    H q = some (.tup [.int a, .int b, .int c]) ∧ H r = some (.tup [.ref r1, .ref r2]) ∧ H r1 = some (.tup [.int (2 * a), .int b]) ∧ H r2 = some (.tup [.int b, .int (2 * c)])
theorem FormAt.mono {C : Addr} {H H' : Hp} (e : Le H H') {p : Addr} {a b c : Int} (h : FormAt C H p a b c) : FormAt C H' p a b c := by
  obtain ⟨dx, t, q, r, r1, r2, m, sg, kd, w, h1, h2, h3, h4, h5, h6⟩ := h
  exact ⟨dx, t, q, r, r1, r2, m, sg, kd, w, e _ _ h1, e _ _ h2, e _ _ h3, e _ _ h4, e _ _ h5, e _ _ h6⟩

mutual
/-- the value v is the data d -/
def Rp (C : Addr) (H : Hp) : Dat → V → Prop
  | .non, v => v = .non
  | .bl b, v => v = .bl b
  | .int i, v => v = .int i
  | .str s, v => v = .str s
  | .tup ds, v => ∃ a xs, v = .ref a ∧ H a = some (.tup xs) ∧ RpL C H ds xs
  | .lst ds, v => ∃ a xs, v = .ref a ∧ H a = some (.lst xs) ∧ RpL C H ds xs
  | .frm a b c, v => ∃ p, v = .ref p ∧ FormAt C H p a b c
  | .dic ks ds, v => ∃ a kvs, v = .ref a ∧ H a = some (.dK kvs) ∧ kvs.map (·.1) = ks.map Sum.inl ∧ RpL C H ds (kvs.map (·.2))
def RpL (C : Addr) (H : Hp) : List Dat → List V → Prop
  | [], xs => xs = []
  | d :: ds, xs => ∃ x r, xs = x :: r ∧ Rp C H d x ∧ RpL C H ds r
end

section
variable {C : Addr} {H H' : Hp}
mutual
theorem Rp.mono (e : Le H H') : ∀ {d : Dat} {v : V}, Rp C H d v → Rp C H' d v
  | .non, _, h => h
  | .bl _, _, h => h
  | .int _, _, h => h
  | .str _, _, h => h
  | .tup ds, v, h => by
    obtain ⟨a, xs, h1, h2, h3⟩ := (show ∃ a xs, v = .ref a ∧ H a = some (.tup xs) ∧ RpL C H ds xs by simpa only [Rp] using h)
    simp only [Rp]
    exact ⟨a, xs, h1, e _ _ h2, RpL.mono e h3⟩
  | .lst ds, v, h => by
    obtain ⟨a, xs, h1, h2, h3⟩ := (show ∃ a xs, v = .ref a ∧ H a = some (.lst xs) ∧ RpL C H ds xs by simpa only [Rp] using h)
    simp only [Rp]
    exact ⟨a, xs, h1, e _ _ h2, RpL.mono e h3⟩
  | .frm a b c, v, h => by
    simp only [Rp] at h ⊢
    obtain ⟨p, h1, h2⟩ := h
    exact ⟨p, h1, h2.mono e⟩
  | .dic ks ds, v, h => by
    obtain ⟨a, kvs, h1, h2, h3, h4⟩ := (show ∃ a kvs, v = .ref a ∧ H a = some (.dK kvs) ∧ kvs.map (·.1) = ks.map Sum.inl ∧ RpL C H ds (kvs.map (·.2)) by simpa only [Rp] using h)
    simp only [Rp]
    exact ⟨a, kvs, h1, e _ _ h2, h3, RpL.mono e h4⟩
theorem RpL.mono (e : Le H H') : ∀ {ds : List Dat} {xs : List V}, RpL C H ds xs → RpL C H' ds xs
  | [], _, h => h
  | d :: ds, xs, h => by
    simp only [RpL] at h ⊢
    obtain ⟨x, r, h1, h2, h3⟩ := h
    exact ⟨x, r, h1, Rp.mono e h2, RpL.mono e h3⟩
end
theorem rp_int {i : Int} : Rp C H (.int i) (.int i) := by simp only [Rp]
theorem rp_bl {b : Bool} : Rp C H (.bl b) (.bl b) := by simp only [Rp]
theorem rp_non : Rp C H .non .non := by simp only [Rp]
theorem rp_str {s : Str} : Rp C H (.str s) (.str s) := by simp only [Rp]
theorem Rp.int {i : Int} {v : V} (h : Rp C H (.int i) v) : v = .int i := by simpa only [Rp] using h
theorem Rp.bl {b : Bool} {v : V} (h : Rp C H (.bl b) v) : v = .bl b := by simpa only [Rp] using h
theorem Rp.non {v : V} (h : Rp C H .non v) : v = .non := by simpa only [Rp] using h
theorem Rp.str {s : Str} {v : V} (h : Rp C H (.str s) v) : v = .str s := by simpa only [Rp] using h
theorem Rp.tup {ds : List Dat} {v : V} (h : Rp C H (.tup ds) v) : ∃ a xs, v = .ref a ∧ H a = some (.tup xs) ∧ RpL C H ds xs := by simpa only [Rp] using h
theorem Rp.lst {ds : List Dat} {v : V} (h : Rp C H (.lst ds) v) : ∃ a xs, v = .ref a ∧ H a = some (.lst xs) ∧ RpL C H ds xs := by simpa only [Rp] using h
theorem Rp.frm {a b c : Int} {v : V} (h : Rp C H (.frm a b c) v) : ∃ p, v = .ref p ∧ FormAt C H p a b c := by simpa only [Rp] using h
theorem rp_tup {ds : List Dat} {a : Addr} {xs : List V} (h : H a = some (.tup xs)) (r : RpL C H ds xs) : Rp C H (.tup ds) (.ref a) := by simp only [Rp]; exact ⟨a, xs, rfl, h, r⟩
theorem rp_lst {ds : List Dat} {a : Addr} {xs : List V} (h : H a = some (.lst xs)) (r : RpL C H ds xs) : Rp C H (.lst ds) (.ref a) := by simp only [Rp]; exact ⟨a, xs, rfl, h, r⟩
theorem Rp.dic {ks : List Int} {ds : List Dat} {v : V} (h : Rp C H (.dic ks ds) v) : ∃ a kvs, v = .ref a ∧ H a = some (.dK kvs) ∧ kvs.map (·.1) = ks.map Sum.inl ∧ RpL C H ds (kvs.map (·.2)) := by simpa only [Rp] using h
theorem rp_dic {ks : List Int} {ds : List Dat} {a : Addr} {kvs : List (Key × V)} (h : H a = some (.dK kvs)) (e : kvs.map (·.1) = ks.map Sum.inl) (r : RpL C H ds (kvs.map (·.2))) : Rp C H (.dic ks ds) (.ref a) := by simp only [Rp]; exact ⟨a, kvs, rfl, h, e, r⟩
theorem rp_frm {a b c : Int} {p : Addr} (h : FormAt C H p a b c) : Rp C H (.frm a b c) (.ref p) := by simp only [Rp]; exact ⟨p, rfl, h⟩
theorem rpl_nil : RpL C H [] [] := by simp only [RpL]
theorem rpl_cons {d : Dat} {ds : List Dat} {x : V} {xs : List V} (h : Rp C H d x) (r : RpL C H ds xs) : RpL C H (d :: ds) (x :: xs) := by simp only [RpL]; exact ⟨x, xs, rfl, h, r⟩
theorem RpL.nil {xs : List V} (h : RpL C H [] xs) : xs = [] := by simpa only [RpL] using h
theorem RpL.cons {d : Dat} {ds : List Dat} {xs : List V} (h : RpL C H (d :: ds) xs) : ∃ x r, xs = x :: r ∧ Rp C H d x ∧ RpL C H ds r := by simpa only [RpL] using h
theorem RpL.length : ∀ {ds : List Dat} {xs : List V}, RpL C H ds xs → xs.length = ds.length
  | [], xs, h => by rw [h.nil]; rfl
  | d :: ds, xs, h => by
    obtain ⟨x, r, e, _, h3⟩ := h.cons
    rw [e, List.length_cons, List.length_cons, RpL.length h3]
theorem RpL.get : ∀ {ds : List Dat} {xs : List V} {i : Nat} {d : Dat}, RpL C H ds xs → ds[i]? = some d → ∃ x, xs[i]? = some x ∧ Rp C H d x
  | [], _, _, _, _, e => by simp at e
  | d :: ds, xs, 0, d', h, e => by
    obtain ⟨x, r, rfl, h2, _⟩ := h.cons
    simp at e; subst e
    exact ⟨x, rfl, h2⟩
  | d :: ds, xs, i + 1, d', h, e => by
    obtain ⟨x, r, rfl, _, h3⟩ := h.cons
    obtain ⟨y, h4, h5⟩ := RpL.get h3 (show ds[i]? = some d' by simpa using e)
    exact ⟨y, by simpa using h4, h5⟩
theorem RpL.get' : ∀ {ds : List Dat} {xs : List V} {i : Nat} {x : V}, RpL C H ds xs → xs[i]? = some x → ∃ d, ds[i]? = some d ∧ Rp C H d x
  | [], xs, _, _, h, e => by rw [h.nil] at e; simp at e
  | d :: ds, xs, 0, x', h, e => by
    obtain ⟨x, r, rfl, h2, _⟩ := h.cons
    simp at e; subst e
    exact ⟨d, rfl, h2⟩
  | d :: ds, xs, i + 1, x', h, e => by
    obtain ⟨x, r, rfl, _, h3⟩ := h.cons
    obtain ⟨y, h4, h5⟩ := RpL.get' h3 (show r[i]? = some x' by simpa using e)
    exact ⟨y, by simpa using h4, h5⟩
theorem RpL.append : ∀ {ds es : List Dat} {xs ys : List V}, RpL C H ds xs → RpL C H es ys → RpL C H (ds ++ es) (xs ++ ys)
  | [], es, xs, ys, h, k => by rw [h.nil]; exact k
  | d :: ds, es, xs, ys, h, k => by
    obtain ⟨x, r, rfl, h2, h3⟩ := h.cons
    exact rpl_cons h2 (RpL.append h3 k)
theorem RpL.drop : ∀ (n : Nat) {ds : List Dat} {xs : List V}, RpL C H ds xs → RpL C H (ds.drop n) (xs.drop n)
  | 0, _, _, h => h
  | n + 1, [], xs, h => by rw [h.nil]; exact rpl_nil
  | n + 1, d :: ds, xs, h => by
    obtain ⟨x, r, rfl, h2, h3⟩ := h.cons
    exact RpL.drop n h3
theorem RpL.take : ∀ (n : Nat) {ds : List Dat} {xs : List V}, RpL C H ds xs → RpL C H (ds.take n) (xs.take n)
  | 0, _, _, h => rpl_nil
  | n + 1, [], xs, h => by rw [h.nil]; exact rpl_nil
  | n + 1, d :: ds, xs, h => by
    obtain ⟨x, r, rfl, h2, h3⟩ := h.cons
    exact rpl_cons h2 (RpL.take n h3)
theorem RpL.set {d : Dat} {v : V} (hv : Rp C H d v) : ∀ (n : Nat) {ds : List Dat} {xs : List V}, RpL C H ds xs → RpL C H (ds.set n d) (xs.set n v)
  | _, [], xs, h => by rw [h.nil]; exact rpl_nil
  | 0, d :: ds, xs, h => by
    obtain ⟨x, r, rfl, h2, h3⟩ := h.cons
    exact rpl_cons hv h3
  | n + 1, d :: ds, xs, h => by
    obtain ⟨x, r, rfl, h2, h3⟩ := h.cons
    exact rpl_cons h2 (RpL.set hv n h3)
theorem RpL.reverse {ds : List Dat} {xs : List V} (h : RpL C H ds xs) : RpL C H ds.reverse xs.reverse := by
  induction ds generalizing xs with
  | nil => rw [h.nil]; exact rpl_nil
  | cons d ds ih =>
    obtain ⟨x, r, rfl, h2, h3⟩ := h.cons
    rw [List.reverse_cons, List.reverse_cons]
    exact RpL.append (ih h3) (rpl_cons h2 rpl_nil)
theorem RpL.ints : ∀ {ns : List Int} {xs : List V}, RpL C H (ns.map Dat.int) xs → xs = ns.map V.int
  | [], xs, h => h.nil
  | n :: ns, xs, h => by
    obtain ⟨x, r, rfl, h2, h3⟩ := h.cons
    rw [h2.int, RpL.ints h3]; rfl
theorem rpl_ints : ∀ {ns : List Int}, RpL C H (ns.map Dat.int) (ns.map V.int)
  | [] => rpl_nil
  | _ :: _ => rpl_cons rp_int rpl_ints
theorem RpL.bls : ∀ {ns : List Bool} {xs : List V}, RpL C H (ns.map Dat.bl) xs → xs = ns.map V.bl
  | [], xs, h => h.nil
  | n :: ns, xs, h => by
    obtain ⟨x, r, rfl, h2, h3⟩ := h.cons
    rw [h2.bl, RpL.bls h3]; rfl
theorem RpL.strs : ∀ {ns : List Str} {xs : List V}, RpL C H (ns.map Dat.str) xs → xs = ns.map V.str
  | [], xs, h => h.nil
  | n :: ns, xs, h => by
    obtain ⟨x, r, rfl, h2, h3⟩ := h.cons
    rw [h2.str, RpL.strs h3]; rfl
end

/-! ### the known heap and the heap -/
/-- an expression's step: (Hk, H) to (Hk', H'): all stands, nothing foreign becomes known -/
structure Nx (Hk H Hk' H' : Hp) : Prop where
  kk : Le Hk Hk'
  hh : Le H H'
  kh : Le Hk' H'
  sp : ∀ l, Hk l = none → H l ≠ none → Hk' l = none
section
variable {Hk H Hk1 H1 Hk2 H2 : Hp}
theorem Nx.refl (h : Le Hk H) : Nx Hk H Hk H := ⟨Le.refl _, Le.refl _, h, fun _ a _ => a⟩
theorem Nx.trans (a : Nx Hk H Hk1 H1) (b : Nx Hk1 H1 Hk2 H2) : Nx Hk H Hk2 H2 :=
  ⟨a.kk.trans b.kk, a.hh.trans b.hh, b.kh, fun l e n => b.sp l (a.sp l e n) (fun z => n (a.hh.free z))⟩
theorem upd_le {p : Addr} {o : HO} (h : Le Hk H) : Le (upd Hk p o) (upd H p o) := fun a u e => by
  by_cases z : a = p
  · subst z; rw [upd_same] at e ⊢; exact e
  · rw [upd_ne z] at e ⊢; exact h a u e
/-- a new object, known -/
theorem Nx.new {p : Addr} {o : HO} (h : Le Hk H) (hp : H p = none) : Nx Hk H (upd Hk p o) (upd H p o) :=
  ⟨Le.new (h.free hp), Le.new hp, upd_le h, fun l e n => by
    have : l ≠ p := fun z => n (z ▸ hp)
    rw [upd_ne this]; exact e⟩
/-- a new object, not known -/
theorem Nx.own {p : Addr} {o : HO} (h : Le Hk H) (hp : H p = none) : Nx Hk H Hk (upd H p o) :=
  ⟨Le.refl _, Le.new hp, h.trans (Le.new hp), fun _ e _ => e⟩
end

/-! ### slots -/
inductive Sl where
  | no | fz (d : Dat) | ow (ds : List Dat)
abbrev En := List Sl
def Own (σ : L2.St) (ρ : En) (l : Addr) : Prop := ∃ (i : Nat) (ds : List Dat), ρ[i]? = some (.ow ds) ∧ σ[i]? = some (some (V.ref l))
structure Rel (C : Addr) (Hk H : Hp) (σ : L2.St) (ρ : En) : Prop where
  kh : Le Hk H
  len : σ.length = ρ.length
  fz : ∀ (i : Nat) (d : Dat), ρ[i]? = some (.fz d) → ∃ v, σ[i]? = some (some v) ∧ Rp C Hk d v
  ow : ∀ (i : Nat) (ds : List Dat), ρ[i]? = some (.ow ds) → ∃ l xs, σ[i]? = some (some (.ref l)) ∧ Hk l = none ∧ H l = some (.lst xs) ∧ RpL C Hk ds xs
  ds : ∀ (i j : Nat) (l : Addr) (a b : List Dat), ρ[i]? = some (.ow a) → ρ[j]? = some (.ow b) → σ[i]? = some (some (.ref l)) → σ[j]? = some (some (.ref l)) → i = j
section
variable {C : Addr} {Hk H Hk' H' Hk1 H1 : Hp} {σ σ' : L2.St} {ρ ρ' : En}
theorem Rel.nx (r : Rel C Hk H σ ρ) (n : Nx Hk H Hk' H') : Rel C Hk' H' σ ρ where
  kh := n.kh
  len := r.len
  fz := fun i d e => by
    obtain ⟨v, h1, h2⟩ := r.fz i d e
    exact ⟨v, h1, h2.mono n.kk⟩
  ow := fun i ds e => by
    obtain ⟨l, xs, h1, h2, h3, h4⟩ := r.ow i ds e
    exact ⟨l, xs, h1, n.sp l h2 (by rw [h3]; intro z; cases z), n.hh l _ h3, h4.mono n.kk⟩
  ds := r.ds
/-- a frozen value is stored -/
theorem Rel.setF {i : Nat} {d : Dat} {v : V} (r : Rel C Hk H σ ρ) (h : Rp C Hk d v) : Rel C Hk H (σ.set i (some v)) (ρ.set i (.fz d)) where
  kh := r.kh
  len := by simp [r.len]
  fz := fun j e hj => by
    by_cases z : i = j
    · subst z
      have hl : i < ρ.length := by
        by_cases q : i < ρ.length
        · exact q
        · rw [List.getElem?_eq_none (by simpa using q)] at hj; cases hj
      rw [List.getElem?_set_self hl] at hj
      cases hj
      exact ⟨v, List.getElem?_set_self (by rw [r.len]; exact hl), h⟩
    · rw [List.getElem?_set_ne z] at hj ⊢
      exact r.fz j e hj
  ow := fun j es hj => by
    by_cases z : i = j
    · subst z
      have hl : i < ρ.length := by
        by_cases q : i < ρ.length
        · exact q
        · rw [List.getElem?_eq_none (by simpa using q)] at hj; cases hj
      rw [List.getElem?_set_self hl] at hj
      cases hj
    · rw [List.getElem?_set_ne z] at hj ⊢
      exact r.ow j es hj
  ds := fun j k l a b hj hk h1 h2 => by
    have nj : i ≠ j := fun z => by
      subst z
      have hl : i < ρ.length := by
        by_cases q : i < ρ.length
        · exact q
        · rw [List.getElem?_eq_none (by simpa using q)] at hj; cases hj
      rw [List.getElem?_set_self hl] at hj
      cases hj
    have nk : i ≠ k := fun z => by
      subst z
      have hl : i < ρ.length := by
        by_cases q : i < ρ.length
        · exact q
        · rw [List.getElem?_eq_none (by simpa using q)] at hk; cases hk
      rw [List.getElem?_set_self hl] at hk
      cases hk
    rw [List.getElem?_set_ne nj] at hj h1
    rw [List.getElem?_set_ne nk] at hk h2
    exact r.ds j k l a b hj hk h1 h2
/-- a new list is stored, owned -/
theorem Rel.setO {i : Nat} {es : List Dat} {p : Addr} {xs : List V} (r : Rel C Hk H σ ρ) (h0 : ∀ l, Own σ ρ l → l ≠ p) (hk : Hk p = none) (hp : H p = some (.lst xs)) (h : RpL C Hk es xs) :
    Rel C Hk H (σ.set i (some (.ref p))) (ρ.set i (.ow es)) where
  kh := r.kh
  len := by simp [r.len]
  fz := fun j e hj => by
    by_cases z : i = j
    · subst z
      have hl : i < ρ.length := by
        by_cases q : i < ρ.length
        · exact q
        · rw [List.getElem?_eq_none (by simpa using q)] at hj; cases hj
      rw [List.getElem?_set_self hl] at hj
      cases hj
    · rw [List.getElem?_set_ne z] at hj ⊢
      exact r.fz j e hj
  ow := fun j fs hj => by
    by_cases z : i = j
    · subst z
      have hl : i < ρ.length := by
        by_cases q : i < ρ.length
        · exact q
        · rw [List.getElem?_eq_none (by simpa using q)] at hj; cases hj
      rw [List.getElem?_set_self hl] at hj
      cases hj
      exact ⟨p, xs, List.getElem?_set_self (by rw [r.len]; exact hl), hk, hp, h⟩
    · rw [List.getElem?_set_ne z] at hj ⊢
      exact r.ow j fs hj
  ds := fun j k l a b hj hk h1 h2 => by
    have lt : ∀ {m : Nat} {c : List Dat}, (ρ.set i (.ow es))[m]? = some (.ow c) → m < ρ.length := fun {m c} q => by
      have := (List.getElem?_eq_some_iff.mp q).1
      simpa using this
    by_cases z : i = j
    · by_cases z' : i = k
      · exact z.symm.trans z'
      · subst z
        rw [List.getElem?_set_self (by rw [r.len]; exact lt hj)] at h1
        cases h1
        rw [List.getElem?_set_ne z'] at hk h2
        exact absurd rfl (h0 _ ⟨k, b, hk, h2⟩)
    · by_cases z' : i = k
      · subst z'
        rw [List.getElem?_set_self (by rw [r.len]; exact lt hk)] at h2
        cases h2
        rw [List.getElem?_set_ne z] at hj h1
        exact absurd rfl (h0 _ ⟨j, a, hj, h1⟩)
      · rw [List.getElem?_set_ne z] at hj h1
        rw [List.getElem?_set_ne z'] at hk h2
        exact r.ds j k l a b hj hk h1 h2
theorem own_setF {i : Nat} {d : Dat} {v : V} {l : Addr} (h : Own (σ.set i (some v)) (ρ.set i (.fz d)) l) : Own σ ρ l := by
  obtain ⟨j, ds, hj, h1⟩ := h
  have nj : i ≠ j := fun z => by
    subst z
    have hl : i < ρ.length := by
      have := (List.getElem?_eq_some_iff.mp hj).1
      simpa using this
    rw [List.getElem?_set_self hl] at hj
    cases hj
  rw [List.getElem?_set_ne nj] at hj h1
  exact ⟨j, ds, hj, h1⟩
theorem own_setO {i : Nat} {es : List Dat} {p l : Addr} (hlen : σ.length = ρ.length) (h : Own (σ.set i (some (.ref p))) (ρ.set i (.ow es)) l) : Own σ ρ l ∨ l = p := by
  obtain ⟨j, ds, hj, h1⟩ := h
  by_cases z : i = j
  · subst z
    have hl : i < ρ.length := by
      have := (List.getElem?_eq_some_iff.mp hj).1
      simpa using this
    rw [List.getElem?_set_self (by rw [hlen]; exact hl)] at h1
    cases h1
    exact .inr rfl
  · rw [List.getElem?_set_ne z] at hj h1
    exact .inl ⟨j, ds, hj, h1⟩
end
/-- a statement's step -/
structure Ns (Hk H : Hp) (σ : L2.St) (ρ : En) (Hk' H' : Hp) (σ' : L2.St) (ρ' : En) : Prop where
  kk : Le Hk Hk'
  kh : Le Hk' H'
  fr : ∀ l o, H l = some o → ¬ Own σ ρ l → H' l = some o
  sp : ∀ l, Hk l = none → H l ≠ none → ¬ Own σ ρ l → Hk' l = none
  own : ∀ l, Own σ' ρ' l → Own σ ρ l ∨ H l = none
section
variable {C : Addr} {Hk H Hk1 H1 Hk2 H2 : Hp} {σ σ1 σ2 : L2.St} {ρ ρ1 ρ2 : En}
theorem Ns.refl (h : Le Hk H) : Ns Hk H σ ρ Hk H σ ρ := ⟨Le.refl _, h, fun _ _ e _ => e, fun _ e _ _ => e, fun _ e => .inl e⟩
theorem Ns.trans (a : Ns Hk H σ ρ Hk1 H1 σ1 ρ1) (b : Ns Hk1 H1 σ1 ρ1 Hk2 H2 σ2 ρ2) : Ns Hk H σ ρ Hk2 H2 σ2 ρ2 := by
  have no : ∀ l o, H l = some o → ¬ Own σ ρ l → ¬ Own σ1 ρ1 l := fun l o e n z => by
    rcases a.own l z with q | q
    · exact n q
    · rw [e] at q; cases q
  refine ⟨a.kk.trans b.kk, b.kh, fun l o e n => b.fr l o (a.fr l o e n) (no l o e n), fun l e n q => ?_, fun l e => ?_⟩
  · cases h : H l with
    | none => exact absurd h n
    | some o => exact b.sp l (a.sp l e n q) (by rw [a.fr l o h q]; intro z; cases z) (no l o h q)
  · rcases b.own l e with q | q
    · exact a.own l q
    · cases h : H l with
      | none => exact .inr rfl
      | some o =>
        refine .inl (Classical.byContradiction fun z => ?_)
        rw [a.fr l o h z] at q; cases q
theorem Nx.ns (n : Nx Hk H Hk1 H1) : Ns Hk H σ ρ Hk1 H1 σ ρ := ⟨n.kk, n.kh, fun l o e _ => n.hh l o e, fun l e q _ => n.sp l e q, fun _ e => .inl e⟩
/-- where nothing was owned at the start -/
theorem Ns.nx (n : Ns Hk H σ ρ Hk1 H1 σ1 ρ1) (h : ∀ l, ¬ Own σ ρ l) : Nx Hk H Hk1 H1 := ⟨n.kk, fun l o e => n.fr l o e (h l), n.kh, fun l e q => n.sp l e q (h l)⟩
end
end L3
set_option maxHeartbeats 4000000
namespace L3
open PySem L2

/-! ### what a reading computes -/
section
variable (C : Addr)
/-- an expression: a value that is the data -/
def OkE (t : TE) (f : En → Option Dat) : Prop := ∀ (Hk H : Hp) (σ : L2.St) (ρ : En) (d : Dat), Rel C Hk H σ ρ → f ρ = some d → ∀ Q : VK, (∀ v Hk' H', Nx Hk H Hk' H' → Rp C Hk' d v → Q v H') → t σ H Q
/-- a test -/
def OkT (t : TT) (f : En → Option Bool) : Prop := ∀ (Hk H : Hp) (σ : L2.St) (ρ : En) (b : Bool), Rel C Hk H σ ρ → f ρ = some b → ∀ Q : Bool → Hp → Prop, (∀ Hk' H', Nx Hk H Hk' H' → Q b H') → t σ H Q
/-- a list that may be read, known or not -/
def OkW (t : TE) (f : En → Option (List Dat)) : Prop := ∀ (Hk H : Hp) (σ : L2.St) (ρ : En) (ds : List Dat), Rel C Hk H σ ρ → f ρ = some ds → ∀ Q : VK, (∀ l xs Hk' H', Nx Hk H Hk' H' → H' l = some (.lst xs) → RpL C Hk' ds xs → Q (.ref l) H') → t σ H Q
/-- a new list -/
def OkL (t : TE) (f : En → Option (List Dat)) : Prop := ∀ (Hk H : Hp) (σ : L2.St) (ρ : En) (ds : List Dat), Rel C Hk H σ ρ → f ρ = some ds → ∀ Q : VK, (∀ p xs Hk' H', Nx Hk H Hk' H' → H p = none → Hk' p = none → H' p = some (.lst xs) → RpL C Hk' ds xs → Q (.ref p) H') → t σ H Q
/-- arguments -/
def OkA (n : Nat) (t : TA) (f : En → Option (List Dat)) : Prop := (∀ ρ ds, f ρ = some ds → ds.length = n) ∧ ∀ (Hk H : Hp) (σ : L2.St) (ρ : En) (ds : List Dat), Rel C Hk H σ ρ → f ρ = some ds → ∀ Q : List V → Hp → Prop, (∀ vs Hk' H', Nx Hk H Hk' H' → RpL C Hk' ds vs → Q vs H') → t σ H Q
/-- an operation on two values, a call on values -/
def OkR (r : R2) (g : Dat → Dat → Option Dat) : Prop := ∀ (Hk H : Hp) (x y : V) (a b d : Dat), Le Hk H → Rp C Hk a x → Rp C Hk b y → g a b = some d → ∀ Q : VK, (∀ v Hk' H', Nx Hk H Hk' H' → Rp C Hk' d v → Q v H') → r x y H Q
def OkC (r : List V → Hp → VK → Prop) (g : List Dat → Option Dat) : Prop := ∀ (Hk H : Hp) (xs : List V) (ds : List Dat) (d : Dat), Le Hk H → RpL C Hk ds xs → g ds = some d → ∀ Q : VK, (∀ v Hk' H', Nx Hk H Hk' H' → Rp C Hk' d v → Q v H') → r xs H Q
end
structure SE (X : Cx) (C : Addr) (e : Expr) (t : TE) (f : En → Option Dat) : Prop where
  p : PE X e t
  o : OkE C t f
structure ST (X : Cx) (C : Addr) (e : Expr) (t : TT) (f : En → Option Bool) : Prop where
  p : PT X e t
  o : OkT C t f
structure SWt (X : Cx) (C : Addr) (e : Expr) (t : TT) (f : En → Option Bool) : Prop where
  p : PW X e t
  o : OkT C t f
structure SW (X : Cx) (C : Addr) (e : Expr) (t : TE) (f : En → Option (List Dat)) : Prop where
  p : PE X e t
  o : OkW C t f
structure SL (X : Cx) (C : Addr) (e : Expr) (t : TE) (f : En → Option (List Dat)) : Prop where
  p : PE X e t
  o : OkL C t f
structure SA (X : Cx) (C : Addr) (es : List Expr) (t : TA) (f : En → Option (List Dat)) : Prop where
  p : PA X es t
  o : OkA C es.length t f

/-! ### the functions -/
def fV (i : Nat) : En → Option Dat := fun ρ => match ρ[i]? with
  | some (.fz d) => some d
  | _ => none
def fO (i : Nat) : En → Option (List Dat) := fun ρ => match ρ[i]? with
  | some (.ow ds) => some ds
  | _ => none
def fK (d : Dat) : En → Option Dat := fun _ => some d
def f1 (g : Dat → Option Dat) (a : En → Option Dat) : En → Option Dat := fun ρ => (a ρ).bind g
def f2 (g : Dat → Dat → Option Dat) (a b : En → Option Dat) : En → Option Dat := fun ρ => (a ρ).bind fun x => (b ρ).bind fun y => g x y
def fC (g : List Dat → Option Dat) (a : En → Option (List Dat)) : En → Option Dat := fun ρ => (a ρ).bind g
def lstOf : Dat → Option (List Dat)
  | .lst ds => some ds
  | _ => none
def tupOf : Dat → Option (List Dat)
  | .tup ds => some ds
  | _ => none
def blOf : Dat → Option Bool
  | .bl b => some b
  | _ => none
def fLst (a : En → Option (List Dat)) : En → Option Dat := fun ρ => (a ρ).bind fun ds => some (.lst ds)
def fTup (a : En → Option (List Dat)) : En → Option Dat := fun ρ => (a ρ).bind fun ds => some (.tup ds)
def fUn (a : En → Option Dat) : En → Option (List Dat) := fun ρ => (a ρ).bind lstOf
def fNil : En → Option (List Dat) := fun _ => some []
def fCons (a : En → Option Dat) (b : En → Option (List Dat)) : En → Option (List Dat) := fun ρ => (a ρ).bind fun x => (b ρ).bind fun r => some (x :: r)
def fB (a : En → Option Dat) : En → Option Bool := fun ρ => (a ρ).bind blOf
def fIf (t : En → Option Bool) (a b : En → Option Dat) : En → Option Dat := fun ρ => (t ρ).bind fun c => match c with
  | true => a ρ
  | false => b ρ
def fAndV (a b : En → Option Dat) : En → Option Dat := fun ρ => (a ρ).bind fun x => (blOf x).bind fun c => match c with
  | true => b ρ
  | false => some (.bl false)
def fOrV (a b : En → Option Dat) : En → Option Dat := fun ρ => (a ρ).bind fun x => (blOf x).bind fun c => match c with
  | true => some (.bl true)
  | false => b ρ
def fNotV (a : En → Option Dat) : En → Option Dat := fun ρ => (a ρ).bind fun x => (blOf x).bind fun c => some (.bl (!c))
def fAnd (a b : En → Option Bool) : En → Option Bool := fun ρ => (a ρ).bind fun c => match c with
  | true => b ρ
  | false => some false
def fOr (a b : En → Option Bool) : En → Option Bool := fun ρ => (a ρ).bind fun c => match c with
  | true => some true
  | false => b ρ
def fNot (a : En → Option Bool) : En → Option Bool := fun ρ => (a ρ).bind fun c => some (!c)
def mulOk (i j : Int) : Bool := decide (i.natAbs < 2 ^ 64) || decide (j.natAbs < 2 ^ 64)
def dAdd : Dat → Dat → Option Dat
  | .int i, .int j => some (.int (i + j))
  | _, _ => none
def dSub : Dat → Dat → Option Dat
  | .int i, .int j => some (.int (i - j))
  | _, _ => none
def dMul : Dat → Dat → Option Dat
  | .int i, .int j => if mulOk i j = true then some (.int (i * j)) else none
  | _, _ => none
def dDiv : Dat → Dat → Option Dat
  | .int i, .int j => if j ≠ 0 ∧ j.natAbs < 1073741824 then some (.int (i.fdiv j)) else none
  | _, _ => none
def dMod : Dat → Dat → Option Dat
  | .int i, .int j => if j ≠ 0 then some (.int (i.fmod j)) else none
  | _, _ => none
def dPow : Dat → Dat → Option Dat
  | .int i, .int j => if 0 ≤ j ∧ j ≤ 1000000 ∧ i.natAbs < 2 ^ 64 then some (.int (i ^ j.toNat)) else none
  | _, _ => none
def dNeg : Dat → Option Dat
  | .int i => some (.int (-i))
  | _ => none
def dCmp (p : Int → Int → Bool) : Dat → Dat → Option Dat
  | .int i, .int j => some (.bl (p i j))
  | _, _ => none
abbrev dLt := dCmp fun i j => decide (i < j)
abbrev dLe := dCmp fun i j => decide (i ≤ j)
abbrev dGt := dCmp fun i j => decide (j < i)
abbrev dGe := dCmp fun i j => decide (j ≤ i)
/-- == of ints, of bools, of texts -/
def dEq : Dat → Dat → Option Dat
  | .int i, .int j => some (.bl (decide (i = j)))
  | .bl i, .bl j => some (.bl (decide (i = j)))
  | .str i, .str j => some (.bl (decide (i = j)))
  | _, _ => none
def dNe : Dat → Dat → Option Dat
  | .int i, .int j => some (.bl (!decide (i = j)))
  | .bl i, .bl j => some (.bl (!decide (i = j)))
  | .str i, .str j => some (.bl (!decide (i = j)))
  | _, _ => none
def dIsN : Dat → Option Dat
  | .non => some (.bl true)
  | _ => some (.bl false)
def dNotN : Dat → Option Dat
  | .non => some (.bl false)
  | _ => some (.bl true)
def atD (ds : List Dat) (i : Int) : Option Dat := (ixN ds.length i).bind fun j => ds[j]?
def dIxT : Dat → Dat → Option Dat
  | .tup ds, .int i => atD ds i
  | _, _ => none
def dIxL (ds : List Dat) : Dat → Option Dat
  | .int i => atD ds i
  | _ => none

/-! ### names, constants, operators -/
section
variable {C : Addr} {X : Cx} {e a b c : Expr} {es : List Expr} {pos : Pos} {f fa fb fc : En → Option Dat} {la lb : En → Option (List Dat)} {ft ta tb : En → Option Bool} {ua ub uc ue : TE} {va vb vc ve : TT} {ga gb : TA}
theorem fV_some {i : Nat} {ρ : En} {d : Dat} (h : fV i ρ = some d) : ρ[i]? = some (.fz d) := by
  unfold fV at h
  split at h
  · rename_i d' e; cases h; exact e
  · cases h
theorem fO_some {i : Nat} {ρ : En} {ds : List Dat} (h : fO i ρ = some ds) : ρ[i]? = some (.ow ds) := by
  unfold fO at h
  split at h
  · rename_i d' e; cases h; exact e
  · cases h
theorem ok_var {i : Nat} : OkE C (tVar i) (fV i) := fun Hk H σ ρ d r e Q q => by
  obtain ⟨v, h1, h2⟩ := r.fz i d (fV_some e)
  exact ⟨v, h1, q v Hk H (Nx.refl r.kh) h2⟩
theorem ok_ow {i : Nat} : OkW C (tVar i) (fO i) := fun Hk H σ ρ ds r e Q q => by
  obtain ⟨l, xs, h1, _, h3, h4⟩ := r.ow i ds (fO_some e)
  exact ⟨.ref l, h1, q l xs Hk H (Nx.refl r.kh) h3 h4⟩
theorem se_var (i : Nat) {x : Str} (hN : X.N[i]? = some x := by rfl) (hv : Vis X.env.scope x := by first | exact Or.inl rfl | exact Or.inr (Or.inl rfl) | exact Or.inr (Or.inr rfl)) (hd : (x == ("__debug__" : Str)) = false := by decide)
    (hcd : (x == ("__classdict__" : Str)) = false := by decide) : SE X C (.Name x pos) (tVar i) (fV i) := ⟨pe_var hN hv hd hcd, ok_var⟩
theorem sw_ow (i : Nat) {x : Str} (hN : X.N[i]? = some x := by rfl) (hv : Vis X.env.scope x := by first | exact Or.inl rfl | exact Or.inr (Or.inl rfl) | exact Or.inr (Or.inr rfl)) (hd : (x == ("__debug__" : Str)) = false := by decide)
    (hcd : (x == ("__classdict__" : Str)) = false := by decide) : SW X C (.Name x pos) (tVar i) (fO i) := ⟨pe_var hN hv hd hcd, ok_ow⟩
theorem ok_c {d : Dat} {v : V} (h : ∀ H, Rp C H d v) : OkE C (tC v) (fK d) := fun Hk H σ ρ d' r e Q q => by
  cases e
  exact q v Hk H (Nx.refl r.kh) (h Hk)
theorem se_int {i : Int} {j} : SE X C (.Constant (.int i) j pos) (tC (.int i)) (fK (.int i)) := ⟨pe_int, ok_c fun _ => rp_int⟩
theorem se_bl {b : Bool} {j} : SE X C (.Constant (.bool b) j pos) (tC (.bl b)) (fK (.bl b)) := ⟨pe_bl, ok_c fun _ => rp_bl⟩
theorem se_non {j} : SE X C (.Constant .none j pos) (tC .non) (fK .non) := ⟨pe_non, ok_c fun _ => rp_non⟩
theorem se_str {s : Str} {j} : SE X C (.Constant (.str s) j pos) (tC (.str s)) (fK (.str s)) := ⟨pe_str, ok_c fun _ => rp_str⟩
/-- a module's int -/
theorem se_gint {x : Str} {i : Int} (hm : ∃ t, X.mg x = some (.int i t)) (hg : Gl X x := by rfl) (hd : (x == ("__debug__" : Str)) = false := by decide) : SE X C (.Name x pos) (tC (.int i)) (fK (.int i)) := by
  obtain ⟨t, h⟩ := hm
  exact ⟨pe_glob hg h (v := .int i) ⟨t, rfl⟩ hd, ok_c fun _ => rp_int⟩
theorem ok_op {r : R2} {g : Dat → Dat → Option Dat} (hr : OkR C r g) (ha : OkE C ua fa) (hb : OkE C ub fb) : OkE C (tOp r ua ub) (f2 g fa fb) := fun Hk H σ ρ d rl e Q q => by
  unfold f2 at e
  obtain ⟨x, e1, e⟩ := Option.bind_eq_some_iff.mp e
  obtain ⟨y, e2, e⟩ := Option.bind_eq_some_iff.mp e
  refine ha Hk H σ ρ x rl e1 _ fun v1 Hk1 H1 n1 r1 => ?_
  refine hb Hk1 H1 σ ρ y (rl.nx n1) e2 _ fun v2 Hk2 H2 n2 r2 => ?_
  exact hr Hk2 H2 v1 v2 x y d n2.kh (r1.mono n2.kk) r2 e Q fun v Hk3 H3 n3 r3 => q v Hk3 H3 ((n1.trans n2).trans n3) r3
theorem se_bin {op : Operator} {r : R2} {g : Dat → Dat → Option Dat} (ho : OpR X (binaryOp op) r) (hr : OkR C r g) (ha : SE X C a ua fa) (hb : SE X C b ub fb) : SE X C (.BinOp a op b pos) (tOp r ua ub) (f2 g fa fb) := ⟨pe_op ho ha.p hb.p, ok_op hr ha.o hb.o⟩
theorem se_cmpR {op : CmpOp} {r : R2} {g : Dat → Dat → Option Dat} (ho : OpR X (compareOp op) r) (hr : OkR C r g) (ha : SE X C a ua fa) (hb : SE X C b ub fb) (hm : behindInMarks op b = false) : SE X C (.Compare a [op] [b] pos) (tOp r ua ub) (f2 g fa fb) := ⟨pe_cmpR ho ha.p hb.p hm, ok_op hr ha.o hb.o⟩
theorem ok_test {t : TE} (h : OkE C t f) : OkT C (tTest t) (fB f) := fun Hk H σ ρ k r e Q q => by
  unfold fB at e
  obtain ⟨x, e1, e⟩ := Option.bind_eq_some_iff.mp e
  refine h Hk H σ ρ x r e1 _ fun v Hk1 H1 n1 r1 => ?_
  cases x <;> simp only [blOf] at e <;> cases e
  exact ⟨k, r1.bl, q Hk1 H1 n1⟩
theorem ok_tB {t : TE} (h : OkE C t f) : OkT C (tB t) (fB f) := fun Hk H σ ρ k r e Q q => by
  unfold fB at e
  obtain ⟨x, e1, e⟩ := Option.bind_eq_some_iff.mp e
  refine h Hk H σ ρ x r e1 _ fun v Hk1 H1 n1 r1 => ?_
  cases x <;> simp only [blOf] at e <;> cases e
  exact ⟨k, r1.bl, q Hk1 H1 n1⟩
theorem st_cmpR {op : CmpOp} {r : R2} {g : Dat → Dat → Option Dat} (ho : OpR X (compareOp op) r) (hr : OkR C r g) (ha : SE X C a ua fa) (hb : SE X C b ub fb) (hm : behindInMarks op b = false) : ST X C (.Compare a [op] [b] pos) (tTest (tOp r ua ub)) (fB (f2 g fa fb)) := ⟨pt_cmpR ho ha.p hb.p hm, ok_test (ok_op hr ha.o hb.o)⟩
theorem st_val (h : SE X C e ue f) (he : ∀ whole, isTrue e X.env whole = (do let v ← whole; standAt e.pos; holding [v] (truthy v)) := by intro _; rfl) : ST X C e (tB ue) (fB f) := ⟨pt_val h.p he, ok_tB h.o⟩
/-! ### ints -/
theorem okr_I0 {p : Int → Int → Int} : OkR C (rI0 fun i j => .int (p i j)) (fun a b => match a, b with
    | .int i, .int j => some (.int (p i j))
    | _, _ => none) := fun Hk H x y a b d hl ra rb e Q q => by
  cases a <;> cases b <;> simp only [reduceCtorEq] at e
  cases e
  exact ⟨_, _, ra.int, rb.int, q _ Hk H (Nx.refl hl) rp_int⟩
theorem okr_B0 {p : Int → Int → Bool} : OkR C (rI0 fun i j => .bl (p i j)) (dCmp p) := fun Hk H x y a b d hl ra rb e Q q => by
  cases a <;> cases b <;> simp only [dCmp, reduceCtorEq] at e
  cases e
  exact ⟨_, _, ra.int, rb.int, q _ Hk H (Nx.refl hl) rp_bl⟩
theorem okr_add : OkR C (rI0 fun i j => .int (i + j)) dAdd := fun Hk H x y a b d hl ra rb e Q q => by
  cases a <;> cases b <;> simp only [dAdd, reduceCtorEq] at e
  cases e
  exact ⟨_, _, ra.int, rb.int, q _ Hk H (Nx.refl hl) rp_int⟩
theorem okr_sub : OkR C (rI0 fun i j => .int (i - j)) dSub := fun Hk H x y a b d hl ra rb e Q q => by
  cases a <;> cases b <;> simp only [dSub, reduceCtorEq] at e
  cases e
  exact ⟨_, _, ra.int, rb.int, q _ Hk H (Nx.refl hl) rp_int⟩
theorem mulOk_C {i j : Int} (h : mulOk i j = true) : CMul i j := by
  unfold mulOk at h
  rcases (Bool.or_eq_true_iff.mp h) with h | h
  · have := of_decide_eq_true h; left; omega
  · have := of_decide_eq_true h; right; omega
theorem okr_mul : OkR C (rI CMul fun i j => .int (i * j)) dMul := fun Hk H x y a b d hl ra rb e Q q => by
  cases a <;> cases b <;> simp only [dMul, reduceCtorEq] at e
  split at e
  · rename_i h
    cases e
    exact ⟨_, _, ra.int, rb.int, mulOk_C h, q _ Hk H (Nx.refl hl) rp_int⟩
  · cases e
theorem okr_div : OkR C (rI CDivN fun i j => .int (i.fdiv j)) dDiv := fun Hk H x y a b d hl ra rb e Q q => by
  cases a <;> cases b <;> simp only [dDiv, reduceCtorEq] at e
  split at e
  · rename_i h
    cases e
    exact ⟨_, _, ra.int, rb.int, h, q _ Hk H (Nx.refl hl) rp_int⟩
  · cases e
theorem okr_mod : OkR C (rI (fun _ j => j ≠ 0) fun i j => .int (i.fmod j)) dMod := fun Hk H x y a b d hl ra rb e Q q => by
  cases a <;> cases b <;> simp only [dMod, reduceCtorEq] at e
  split at e
  · rename_i h
    cases e
    exact ⟨_, _, ra.int, rb.int, h, q _ Hk H (Nx.refl hl) rp_int⟩
  · cases e
theorem okr_pow : OkR C (rI CPow fun i j => .int (i ^ j.toNat)) dPow := fun Hk H x y a b d hl ra rb e Q q => by
  cases a <;> cases b <;> simp only [dPow, reduceCtorEq] at e
  split at e
  · rename_i h
    cases e
    exact ⟨_, _, ra.int, rb.int, h, q _ Hk H (Nx.refl hl) rp_int⟩
  · cases e
theorem okr_eq : OkR C rEq dEq := fun Hk H x y a b d hl ra rb e Q q => by
  cases a <;> cases b <;> simp only [dEq, reduceCtorEq] at e <;> cases e
  · rw [ra.bl, rb.bl]
    refine ⟨rfl, ?_⟩
    have := q _ Hk H (Nx.refl hl) rp_bl
    simpa only [V.bl.injEq] using this
  · rw [ra.int, rb.int]
    refine ⟨rfl, ?_⟩
    have := q _ Hk H (Nx.refl hl) rp_bl
    simpa only [V.int.injEq] using this
  · rw [ra.str, rb.str]
    refine ⟨rfl, ?_⟩
    have := q _ Hk H (Nx.refl hl) rp_bl
    simpa only [V.str.injEq] using this
theorem okr_ne : OkR C rNe dNe := fun Hk H x y a b d hl ra rb e Q q => by
  cases a <;> cases b <;> simp only [dNe, reduceCtorEq] at e <;> cases e
  · rw [ra.bl, rb.bl]
    refine ⟨rfl, ?_⟩
    have := q _ Hk H (Nx.refl hl) rp_bl
    simpa only [V.bl.injEq] using this
  · rw [ra.int, rb.int]
    refine ⟨rfl, ?_⟩
    have := q _ Hk H (Nx.refl hl) rp_bl
    simpa only [V.int.injEq] using this
  · rw [ra.str, rb.str]
    refine ⟨rfl, ?_⟩
    have := q _ Hk H (Nx.refl hl) rp_bl
    simpa only [V.str.injEq] using this
theorem se_add (ha : SE X C a ua fa) (hb : SE X C b ub fb) : SE X C (.BinOp a .Add b pos) (tOp (rI0 fun i j => .int (i + j)) ua ub) (f2 dAdd fa fb) := se_bin op_add okr_add ha hb
theorem se_sub (ha : SE X C a ua fa) (hb : SE X C b ub fb) : SE X C (.BinOp a .Sub b pos) (tOp (rI0 fun i j => .int (i - j)) ua ub) (f2 dSub fa fb) := se_bin op_sub okr_sub ha hb
theorem se_mul (ha : SE X C a ua fa) (hb : SE X C b ub fb) : SE X C (.BinOp a .Mult b pos) (tOp (rI CMul fun i j => .int (i * j)) ua ub) (f2 dMul fa fb) := se_bin op_mul okr_mul ha hb
theorem se_div (ha : SE X C a ua fa) (hb : SE X C b ub fb) : SE X C (.BinOp a .FloorDiv b pos) (tOp (rI CDivN fun i j => .int (i.fdiv j)) ua ub) (f2 dDiv fa fb) := se_bin op_fdivN okr_div ha hb
theorem se_mod (ha : SE X C a ua fa) (hb : SE X C b ub fb) : SE X C (.BinOp a .Mod b pos) (tOp (rI (fun _ j => j ≠ 0) fun i j => .int (i.fmod j)) ua ub) (f2 dMod fa fb) := se_bin op_modN okr_mod ha hb
theorem se_pow (ha : SE X C a ua fa) (hb : SE X C b ub fb) : SE X C (.BinOp a .Pow b pos) (tOp (rI CPow fun i j => .int (i ^ j.toNat)) ua ub) (f2 dPow fa fb) := se_bin op_pow okr_pow ha hb
theorem se_lt (ha : SE X C a ua fa) (hb : SE X C b ub fb) : SE X C (.Compare a [.Lt] [b] pos) (tOp (rI0 fun i j => .bl (decide (i < j))) ua ub) (f2 dLt fa fb) := se_cmpR op_lt okr_B0 ha hb (nomark _)
theorem se_le (ha : SE X C a ua fa) (hb : SE X C b ub fb) : SE X C (.Compare a [.LtE] [b] pos) (tOp (rI0 fun i j => .bl (decide (i ≤ j))) ua ub) (f2 dLe fa fb) := se_cmpR op_le okr_B0 ha hb (nomark _)
theorem se_gt (ha : SE X C a ua fa) (hb : SE X C b ub fb) : SE X C (.Compare a [.Gt] [b] pos) (tOp (rI0 fun i j => .bl (decide (j < i))) ua ub) (f2 dGt fa fb) := se_cmpR op_gt okr_B0 ha hb (nomark _)
theorem se_ge (ha : SE X C a ua fa) (hb : SE X C b ub fb) : SE X C (.Compare a [.GtE] [b] pos) (tOp (rI0 fun i j => .bl (decide (j ≤ i))) ua ub) (f2 dGe fa fb) := se_cmpR op_ge okr_B0 ha hb (nomark _)
theorem se_eq (ha : SE X C a ua fa) (hb : SE X C b ub fb) : SE X C (.Compare a [.Eq] [b] pos) (tOp (rEq) ua ub) (f2 dEq fa fb) := se_cmpR op_eq okr_eq ha hb (nomark _)
theorem se_ne (ha : SE X C a ua fa) (hb : SE X C b ub fb) : SE X C (.Compare a [.NotEq] [b] pos) (tOp (rNe) ua ub) (f2 dNe fa fb) := se_cmpR op_ne okr_ne ha hb (nomark _)
theorem st_lt (ha : SE X C a ua fa) (hb : SE X C b ub fb) : ST X C (.Compare a [.Lt] [b] pos) (tTest (tOp (rI0 fun i j => .bl (decide (i < j))) ua ub)) (fB (f2 dLt fa fb)) := st_cmpR op_lt okr_B0 ha hb (nomark _)
theorem st_le (ha : SE X C a ua fa) (hb : SE X C b ub fb) : ST X C (.Compare a [.LtE] [b] pos) (tTest (tOp (rI0 fun i j => .bl (decide (i ≤ j))) ua ub)) (fB (f2 dLe fa fb)) := st_cmpR op_le okr_B0 ha hb (nomark _)
theorem st_gt (ha : SE X C a ua fa) (hb : SE X C b ub fb) : ST X C (.Compare a [.Gt] [b] pos) (tTest (tOp (rI0 fun i j => .bl (decide (j < i))) ua ub)) (fB (f2 dGt fa fb)) := st_cmpR op_gt okr_B0 ha hb (nomark _)
theorem st_ge (ha : SE X C a ua fa) (hb : SE X C b ub fb) : ST X C (.Compare a [.GtE] [b] pos) (tTest (tOp (rI0 fun i j => .bl (decide (j ≤ i))) ua ub)) (fB (f2 dGe fa fb)) := st_cmpR op_ge okr_B0 ha hb (nomark _)
theorem st_eq (ha : SE X C a ua fa) (hb : SE X C b ub fb) : ST X C (.Compare a [.Eq] [b] pos) (tTest (tOp (rEq) ua ub)) (fB (f2 dEq fa fb)) := st_cmpR op_eq okr_eq ha hb (nomark _)
theorem st_ne (ha : SE X C a ua fa) (hb : SE X C b ub fb) : ST X C (.Compare a [.NotEq] [b] pos) (tTest (tOp (rNe) ua ub)) (fB (f2 dNe fa fb)) := st_cmpR op_ne okr_ne ha hb (nomark _)
/-- one-place -/
def OkU (C : Addr) (r : V → Hp → VK → Prop) (g : Dat → Option Dat) : Prop := ∀ (Hk H : Hp) (x : V) (a d : Dat), Le Hk H → Rp C Hk a x → g a = some d → ∀ Q : VK, (∀ v Hk' H', Nx Hk H Hk' H' → Rp C Hk' d v → Q v H') → r x H Q
theorem ok_un {r : V → Hp → VK → Prop} {g : Dat → Option Dat} (hr : OkU C r g) (ha : OkE C ua fa) : OkE C (tUn r ua) (f1 g fa) := fun Hk H σ ρ d rl e Q q => by
  unfold f1 at e
  obtain ⟨x, e1, e⟩ := Option.bind_eq_some_iff.mp e
  refine ha Hk H σ ρ x rl e1 _ fun v1 Hk1 H1 n1 r1 => ?_
  exact hr Hk1 H1 v1 x d n1.kh r1 e Q fun v Hk3 H3 n3 r3 => q v Hk3 H3 (n1.trans n3) r3
theorem se_neg (ha : SE X C a ua fa) : SE X C (.UnaryOp .USub a pos) (tUn (rU fun i => .int (-i)) ua) (f1 dNeg fa) := by
  obtain ⟨pa, oa⟩ := ha
  refine ⟨pe_un un_neg pa, ok_un (fun Hk H x u d hl ra e Q q => ?_) oa⟩
  cases u <;> simp only [dNeg, reduceCtorEq] at e
  cases e
  exact ⟨_, ra.int, q _ Hk H (Nx.refl hl) rp_int⟩
/-! ### None -/
theorem isN_iff {Hk : Hp} {u : Dat} {x : V} (r : Rp C Hk u x) : dIsN u = some (.bl (decide (x = .non))) ∧ dNotN u = some (.bl (!decide (x = .non))) := by
  cases u with
  | non => rw [r.non]; exact ⟨rfl, rfl⟩
  | bl _ => rw [r.bl]; exact ⟨rfl, rfl⟩
  | int _ => rw [r.int]; exact ⟨rfl, rfl⟩
  | str _ => rw [r.str]; exact ⟨rfl, rfl⟩
  | tup _ => obtain ⟨_, _, e, _⟩ := r.tup; rw [e]; exact ⟨rfl, rfl⟩
  | lst _ => obtain ⟨_, _, e, _⟩ := r.lst; rw [e]; exact ⟨rfl, rfl⟩
  | frm _ _ _ => obtain ⟨_, e, _⟩ := r.frm; rw [e]; exact ⟨rfl, rfl⟩
  | dic _ _ => obtain ⟨_, _, e, _⟩ := r.dic; rw [e]; exact ⟨rfl, rfl⟩
theorem ok_isN {t : TE} (h : OkE C t f) : OkE C (tIsN t) (f1 dIsN f) := fun Hk H σ ρ d r e Q q => by
  unfold f1 at e
  obtain ⟨x, e1, e⟩ := Option.bind_eq_some_iff.mp e
  refine h Hk H σ ρ x r e1 _ fun v Hk1 H1 n1 r1 => ?_
  rw [(isN_iff r1).1] at e
  cases e
  exact q _ Hk1 H1 n1 rp_bl
theorem ok_notN {t : TE} (h : OkE C t f) : OkE C (tNotN t) (f1 dNotN f) := fun Hk H σ ρ d r e Q q => by
  unfold f1 at e
  obtain ⟨x, e1, e⟩ := Option.bind_eq_some_iff.mp e
  refine h Hk H σ ρ x r e1 _ fun v Hk1 H1 n1 r1 => ?_
  rw [(isN_iff r1).2] at e
  cases e
  exact q _ Hk1 H1 n1 rp_bl
theorem se_isN {j pos'} (h : SE X C a ua f) : SE X C (.Compare a [.Is] [.Constant .none j pos'] pos) (tIsN ua) (f1 dIsN f) := by
  obtain ⟨p, o⟩ := h; exact ⟨pe_cmp (pc_isN p) rfl, ok_isN o⟩
theorem se_notN {j pos'} (h : SE X C a ua f) : SE X C (.Compare a [.IsNot] [.Constant .none j pos'] pos) (tNotN ua) (f1 dNotN f) := by
  obtain ⟨p, o⟩ := h; exact ⟨pe_cmp (pc_notN p) rfl, ok_notN o⟩
theorem st_isN {j pos'} (h : SE X C a ua f) : ST X C (.Compare a [.Is] [.Constant .none j pos'] pos) (tB (tIsN ua)) (fB (f1 dIsN f)) := by
  obtain ⟨p, o⟩ := h; exact ⟨pt_cmp (pc_isN p) rfl, ok_tB (ok_isN o)⟩
theorem st_notN {j pos'} (h : SE X C a ua f) : ST X C (.Compare a [.IsNot] [.Constant .none j pos'] pos) (tB (tNotN ua)) (fB (f1 dNotN f)) := by
  obtain ⟨p, o⟩ := h; exact ⟨pt_cmp (pc_notN p) rfl, ok_tB (ok_notN o)⟩
/-! ### and, or, not, if -/
theorem ok_andV (ha : OkE C ua fa) (hb : OkE C ub fb) : OkE C (tAndV ua ub) (fAndV fa fb) := fun Hk H σ ρ d r e Q q => by
  unfold fAndV at e
  obtain ⟨x, e1, e⟩ := Option.bind_eq_some_iff.mp e
  obtain ⟨k, e2, e⟩ := Option.bind_eq_some_iff.mp e
  refine ha Hk H σ ρ x r e1 _ fun v Hk1 H1 n1 r1 => ?_
  cases x <;> simp only [blOf, reduceCtorEq] at e2
  cases e2
  refine ⟨_, r1.bl, ?_⟩
  cases k with
  | true => exact iteT (hb Hk1 H1 σ ρ d (r.nx n1) e Q fun v2 Hk2 H2 n2 r2 => q v2 Hk2 H2 (n1.trans n2) r2)
  | false => cases e; exact iteF (q _ Hk1 H1 n1 rp_bl)
theorem ok_orV (ha : OkE C ua fa) (hb : OkE C ub fb) : OkE C (tOrV ua ub) (fOrV fa fb) := fun Hk H σ ρ d r e Q q => by
  unfold fOrV at e
  obtain ⟨x, e1, e⟩ := Option.bind_eq_some_iff.mp e
  obtain ⟨k, e2, e⟩ := Option.bind_eq_some_iff.mp e
  refine ha Hk H σ ρ x r e1 _ fun v Hk1 H1 n1 r1 => ?_
  cases x <;> simp only [blOf, reduceCtorEq] at e2
  cases e2
  refine ⟨_, r1.bl, ?_⟩
  cases k with
  | true => cases e; exact iteT (q _ Hk1 H1 n1 rp_bl)
  | false => exact iteF (hb Hk1 H1 σ ρ d (r.nx n1) e Q fun v2 Hk2 H2 n2 r2 => q v2 Hk2 H2 (n1.trans n2) r2)
theorem se_and {rest : List Expr} (ha : SE X C a ua fa) (hb : SE X C (.BoolOp .And (b :: rest) pos) ub fb) : SE X C (.BoolOp .And (a :: b :: rest) pos) (tAndV ua ub) (fAndV fa fb) := ⟨pe_and ha.p hb.p, ok_andV ha.o hb.o⟩
theorem se_or {rest : List Expr} (ha : SE X C a ua fa) (hb : SE X C (.BoolOp .Or (b :: rest) pos) ub fb) : SE X C (.BoolOp .Or (a :: b :: rest) pos) (tOrV ua ub) (fOrV fa fb) := ⟨pe_or ha.p hb.p, ok_orV ha.o hb.o⟩
theorem se_one {op} (ha : SE X C a ua fa) : SE X C (.BoolOp op [a] pos) ua fa := ⟨pe_one ha.p, ha.o⟩
theorem se_not (ha : SE X C a ua fa) : SE X C (.UnaryOp .Not a pos) (tNotV ua) (fNotV fa) := by
  obtain ⟨pa, oa⟩ := ha
  refine ⟨pe_not pa, fun Hk H σ ρ d r e Q q => ?_⟩
  unfold fNotV at e
  obtain ⟨x, e1, e⟩ := Option.bind_eq_some_iff.mp e
  obtain ⟨k, e2, e⟩ := Option.bind_eq_some_iff.mp e
  refine oa Hk H σ ρ x r e1 _ fun v Hk1 H1 n1 r1 => ?_
  cases x <;> simp only [blOf, reduceCtorEq] at e2
  cases e2
  cases e
  exact ⟨_, r1.bl, q _ Hk1 H1 n1 rp_bl⟩
theorem ok_and (ha : OkT C va ta) (hb : OkT C vb tb) : OkT C (tAnd va vb) (fAnd ta tb) := fun Hk H σ ρ d r e Q q => by
  unfold fAnd at e
  obtain ⟨k, e1, e⟩ := Option.bind_eq_some_iff.mp e
  refine ha Hk H σ ρ k r e1 _ fun Hk1 H1 n1 => ?_
  cases k with
  | true => exact iteT (hb Hk1 H1 σ ρ d (r.nx n1) e Q fun Hk2 H2 n2 => q Hk2 H2 (n1.trans n2))
  | false => cases e; exact iteF (q Hk1 H1 n1)
theorem ok_or (ha : OkT C va ta) (hb : OkT C vb tb) : OkT C (tOr va vb) (fOr ta tb) := fun Hk H σ ρ d r e Q q => by
  unfold fOr at e
  obtain ⟨k, e1, e⟩ := Option.bind_eq_some_iff.mp e
  refine ha Hk H σ ρ k r e1 _ fun Hk1 H1 n1 => ?_
  cases k with
  | true => cases e; exact iteT (q Hk1 H1 n1)
  | false => exact iteF (hb Hk1 H1 σ ρ d (r.nx n1) e Q fun Hk2 H2 n2 => q Hk2 H2 (n1.trans n2))
theorem sw_and {rest : List Expr} (ha : ST X C a va ta) (hb : SWt X C (.BoolOp .And (b :: rest) pos) vb tb) : SWt X C (.BoolOp .And (a :: b :: rest) pos) (tAnd va vb) (fAnd ta tb) := ⟨pw_and ha.p hb.p, ok_and ha.o hb.o⟩
theorem sw_or {rest : List Expr} (ha : ST X C a va ta) (hb : SWt X C (.BoolOp .Or (b :: rest) pos) vb tb) : SWt X C (.BoolOp .Or (a :: b :: rest) pos) (tOr va vb) (fOr ta tb) := ⟨pw_or ha.p hb.p, ok_or ha.o hb.o⟩
theorem sw_and1 (ha : ST X C a va ta) : SWt X C (.BoolOp .And [a] pos) va ta := ⟨pw_and1 ha.p, ha.o⟩
theorem sw_or1 (ha : ST X C a va ta) : SWt X C (.BoolOp .Or [a] pos) va ta := ⟨pw_or1 ha.p, ha.o⟩
theorem SWt.st (h : SWt X C e ve ft) : ST X C e ve ft := ⟨h.p.pt, h.o⟩
theorem st_not (ha : ST X C a va ta) : ST X C (.UnaryOp .Not a pos) (tNot va) (fNot ta) := by
  obtain ⟨pa, oa⟩ := ha
  refine ⟨pt_not pa, fun Hk H σ ρ d r e Q q => ?_⟩
  unfold fNot at e
  obtain ⟨k, e1, e⟩ := Option.bind_eq_some_iff.mp e
  cases e
  exact oa Hk H σ ρ k r e1 _ q
theorem se_if (hc : ST X C c vc ft) (ha : SE X C a ua fa) (hb : SE X C b ub fb) : SE X C (.IfExp c a b pos) (tIf vc ua ub) (fIf ft fa fb) := by
  obtain ⟨pc, oc⟩ := hc
  obtain ⟨pa, oa⟩ := ha
  obtain ⟨pb, ob⟩ := hb
  refine ⟨pe_ifExp pc pa pb, fun Hk H σ ρ d r e Q q => ?_⟩
  unfold fIf at e
  obtain ⟨k, e1, e⟩ := Option.bind_eq_some_iff.mp e
  refine oc Hk H σ ρ k r e1 _ fun Hk1 H1 n1 => ?_
  cases k with
  | true => exact iteT (oa Hk1 H1 σ ρ d (r.nx n1) e Q fun v2 Hk2 H2 n2 r2 => q v2 Hk2 H2 (n1.trans n2) r2)
  | false => exact iteF (ob Hk1 H1 σ ρ d (r.nx n1) e Q fun v2 Hk2 H2 n2 r2 => q v2 Hk2 H2 (n1.trans n2) r2)
/-! ### two comparisons in a chain -/
def fChain (g g' : Dat → Dat → Option Dat) (a b c : En → Option Dat) : En → Option Dat := fun ρ => (a ρ).bind fun x => (b ρ).bind fun y => (g x y).bind fun u => (blOf u).bind fun k => match k with
  | true => (c ρ).bind fun z => g' y z
  | false => some (.bl false)
theorem ok_chain {r r' : R2} {g g' : Dat → Dat → Option Dat} (hr : OkR C r g) (hr' : OkR C r' g') (ha : OkE C ua fa) (hb : OkE C ub fb) (hc : OkE C uc fc) : OkE C (tChain r r' ua ub uc) (fChain g g' fa fb fc) := fun Hk H σ ρ d rl e Q q => by
  unfold fChain at e
  obtain ⟨x, e1, e⟩ := Option.bind_eq_some_iff.mp e
  obtain ⟨y, e2, e⟩ := Option.bind_eq_some_iff.mp e
  obtain ⟨u, e3, e⟩ := Option.bind_eq_some_iff.mp e
  obtain ⟨k, e4, e⟩ := Option.bind_eq_some_iff.mp e
  refine ha Hk H σ ρ x rl e1 _ fun v1 Hk1 H1 n1 r1 => ?_
  refine hb Hk1 H1 σ ρ y (rl.nx n1) e2 _ fun v2 Hk2 H2 n2 r2 => ?_
  refine hr Hk2 H2 v1 v2 x y u n2.kh (r1.mono n2.kk) r2 e3 _ fun v Hk3 H3 n3 r3 => ?_
  cases u <;> simp only [blOf, reduceCtorEq] at e4
  cases e4
  refine ⟨k, r3.bl, ?_⟩
  have n123 := (n1.trans n2).trans n3
  cases k with
  | true =>
    have e : (fc ρ).bind (fun z => g' y z) = some d := e
    obtain ⟨z, e5, e⟩ := Option.bind_eq_some_iff.mp e
    refine iteT (hc Hk3 H3 σ ρ z (rl.nx n123) e5 _ fun v4 Hk4 H4 n4 r4 => ?_)
    exact hr' Hk4 H4 v2 v4 y z d n4.kh (r2.mono (n3.kk.trans n4.kk)) r4 e Q fun v5 Hk5 H5 n5 r5 => q v5 Hk5 H5 ((n123.trans n4).trans n5) r5
  | false => cases e; exact iteF (q _ Hk3 H3 n123 rp_bl)
theorem se_chain {op op' : CmpOp} {r r' : R2} {g g' : Dat → Dat → Option Dat} (ho : OpR X (compareOp op) r) (ho' : OpR X (compareOp op') r') (hr : OkR C r g) (hr' : OkR C r' g') (ha : SE X C a ua fa) (hb : SE X C b ub fb) (hc : SE X C c uc fc)
    (hm : lastMarks [op, op'] [b, c] = false) : SE X C (.Compare a [op, op'] [b, c] pos) (tChain r r' ua ub uc) (fChain g g' fa fb fc) := by
  obtain ⟨pa, oa⟩ := ha
  obtain ⟨pb, ob⟩ := hb
  obtain ⟨pc, oc⟩ := hc
  exact ⟨pe_chain ho ho' pa pb pc hm, ok_chain hr hr' oa ob oc⟩
theorem st_chain {op op' : CmpOp} {r r' : R2} {g g' : Dat → Dat → Option Dat} (ho : OpR X (compareOp op) r) (ho' : OpR X (compareOp op') r') (hr : OkR C r g) (hr' : OkR C r' g') (ha : SE X C a ua fa) (hb : SE X C b ub fb) (hc : SE X C c uc fc)
    (hm : lastMarks [op, op'] [b, c] = false) : ST X C (.Compare a [op, op'] [b, c] pos) (tTest (tChain r r' ua ub uc)) (fB (fChain g g' fa fb fc)) := by
  obtain ⟨pa, oa⟩ := ha
  obtain ⟨pb, ob⟩ := hb
  obtain ⟨pc, oc⟩ := hc
  exact ⟨pt_chain ho ho' pa pb pc hm, ok_test (ok_chain hr hr' oa ob oc)⟩
theorem se_le_le (ha : SE X C a ua fa) (hb : SE X C b ub fb) (hc : SE X C c uc fc) (hm : lastMarks [.LtE, .LtE] [b, c] = false := by rfl) : SE X C (.Compare a [.LtE, .LtE] [b, c] pos) (tChain (rI0 fun i j => .bl (decide (i ≤ j))) (rI0 fun i j => .bl (decide (i ≤ j))) ua ub uc) (fChain dLe dLe fa fb fc) := se_chain op_le op_le okr_B0 okr_B0 ha hb hc hm
theorem st_le_le (ha : SE X C a ua fa) (hb : SE X C b ub fb) (hc : SE X C c uc fc) (hm : lastMarks [.LtE, .LtE] [b, c] = false := by rfl) : ST X C (.Compare a [.LtE, .LtE] [b, c] pos) (tTest (tChain (rI0 fun i j => .bl (decide (i ≤ j))) (rI0 fun i j => .bl (decide (i ≤ j))) ua ub uc)) (fB (fChain dLe dLe fa fb fc)) := st_chain op_le op_le okr_B0 okr_B0 ha hb hc hm

/-! ### arguments, tuples, lists -/
theorem sa_nil : SA X C [] tNil fNil := ⟨pa_nil, fun ρ ds e => by cases e; rfl, fun Hk H σ ρ ds r e Q q => by cases e; exact q [] Hk H (Nx.refl r.kh) rpl_nil⟩
theorem sa_cons (ha : SE X C a ua fa) (hb : SA X C es gb lb) (hs : starEach (a :: es) X.env = (false, eval a X.env) :: starEach es X.env := by rfl) : SA X C (a :: es) (tCons ua gb) (fCons fa lb) := by
  obtain ⟨pa, oa⟩ := ha
  obtain ⟨pb, nb, ob⟩ := hb
  refine ⟨pa_cons pa pb hs, fun ρ ds e => ?_, fun Hk H σ ρ ds r e Q q => ?_⟩
  · unfold fCons at e
    obtain ⟨x, e1, e⟩ := Option.bind_eq_some_iff.mp e
    obtain ⟨y, e2, e⟩ := Option.bind_eq_some_iff.mp e
    cases e
    rw [List.length_cons, nb ρ y e2, List.length_cons]
  · unfold fCons at e
    obtain ⟨x, e1, e⟩ := Option.bind_eq_some_iff.mp e
    obtain ⟨y, e2, e⟩ := Option.bind_eq_some_iff.mp e
    cases e
    refine oa Hk H σ ρ x r e1 _ fun v1 Hk1 H1 n1 r1 => ?_
    refine ob Hk1 H1 σ ρ y (r.nx n1) e2 _ fun vs Hk2 H2 n2 r2 => ?_
    exact q _ Hk2 H2 (n1.trans n2) (rpl_cons (r1.mono n2.kk) r2)
theorem small_len {n : Nat} (h : n ≤ 1000) : n ≤ sizeLine := Nat.le_trans h (by decide)
theorem se_tup {x1} (ha : SA X C es ga la) (hl : es.length ≤ 1000 := by decide) : SE X C (.Tuple es x1 pos) (tTup ga) (fTup la) := by
  obtain ⟨pa, na, oa⟩ := ha
  refine ⟨pe_tup pa, fun Hk H σ ρ d r e Q q => ?_⟩
  unfold fTup at e
  obtain ⟨ds, e1, e⟩ := Option.bind_eq_some_iff.mp e
  cases e
  refine oa Hk H σ ρ ds r e1 _ fun vs Hk1 H1 n1 r1 => ?_
  refine ⟨by rw [r1.length, na ρ ds e1]; exact small_len hl, fun p hp => ?_⟩
  have n2 : Nx Hk1 H1 _ _ := Nx.new (o := .tup vs) n1.kh hp
  exact q _ _ _ (n1.trans n2) (rp_tup upd_same (r1.mono n2.kk))
theorem sl_lst (ha : SA X C es ga la) (hl : es.length ≤ 1000 := by decide) : SL X C (.List es pos) (tLst ga) la := by
  obtain ⟨pa, na, oa⟩ := ha
  refine ⟨pe_lst pa, fun Hk H σ ρ ds r e1 Q q => ?_⟩
  refine oa Hk H σ ρ ds r e1 _ fun vs Hk1 H1 n1 r1 => ?_
  refine ⟨by rw [r1.length, na ρ ds e1]; exact small_len hl, fun p hp => ?_⟩
  have n2 : Nx Hk1 H1 Hk1 _ := Nx.own (o := .lst vs) n1.kh hp
  exact q p vs Hk1 _ (n1.trans n2) (n1.hh.free hp) (n1.kh.free hp) upd_same r1
/-- a new list becomes known -/
theorem SL.se (h : SL X C e ue la) : SE X C e ue (fLst la) := by
  obtain ⟨p, o⟩ := h
  refine ⟨p, fun Hk H σ ρ d r e Q q => ?_⟩
  unfold fLst at e
  obtain ⟨ds, e1, e⟩ := Option.bind_eq_some_iff.mp e
  cases e
  refine o Hk H σ ρ ds r e1 _ fun l xs Hk1 H1 n1 h0 h1 h2 r1 => ?_
  refine q _ (upd Hk1 l (.lst xs)) H1 ⟨n1.kk.trans (Le.new h1), n1.hh, fun b u hb => ?_, fun m hm hn => ?_⟩ (rp_lst upd_same (r1.mono (Le.new h1)))
  · by_cases z : b = l
    · subst z; rw [upd_same] at hb; cases hb; exact h2
    · rw [upd_ne z] at hb; exact n1.kh b u hb
  · have z : m ≠ l := fun z => by subst z; exact hn h0
    rw [upd_ne z]
    exact n1.sp m hm hn
theorem SL.sw (h : SL X C e ue la) : SW X C e ue la := by
  obtain ⟨p, o⟩ := h
  exact ⟨p, fun Hk H σ ρ ds r e Q q => o Hk H σ ρ ds r e Q fun l xs Hk1 H1 n1 h0 h1 h2 r1 => q l xs Hk1 H1 n1 h2 r1⟩
theorem SE.sw (h : SE X C e ue f) : SW X C e ue (fUn f) := by
  obtain ⟨p, o⟩ := h
  refine ⟨p, fun Hk H σ ρ ds r e Q q => ?_⟩
  unfold fUn at e
  obtain ⟨x, e1, e⟩ := Option.bind_eq_some_iff.mp e
  refine o Hk H σ ρ x r e1 _ fun v Hk1 H1 n1 r1 => ?_
  cases x <;> simp only [lstOf, reduceCtorEq] at e
  cases e
  obtain ⟨l, xs, rfl, h1, h2⟩ := r1.lst
  exact q l xs Hk1 H1 n1 (n1.kh _ _ h1) h2
/-! ### subscripts -/
theorem atD_at {Hk : Hp} {ds : List Dat} {xs : List V} {i : Int} {d : Dat} (r : RpL C Hk ds xs) (h : atD ds i = some d) : ∃ v, atI xs i = some v ∧ Rp C Hk d v := by
  unfold atD at h
  obtain ⟨j, e1, e2⟩ := Option.bind_eq_some_iff.mp h
  obtain ⟨v, h1, h2⟩ := r.get e2
  refine ⟨v, ?_, h2⟩
  unfold atI
  rw [r.length, e1]
  exact h1
theorem se_ixT (ha : SE X C a ua fa) (hb : SE X C b ub fb) (hs : PlainIx b := by exact fun _ _ => rfl) : SE X C (.Subscript a b pos) (tOp (rIxT X.K) ua ub) (f2 dIxT fa fb) := by
  obtain ⟨pa, oa⟩ := ha
  obtain ⟨pb, ob⟩ := hb
  refine ⟨pe_ix ix_tup pa pb hs, ok_op (fun Hk H x y u w d hl ra rb e Q q => ?_) oa ob⟩
  cases u <;> cases w <;> simp only [dIxT, reduceCtorEq] at e
  obtain ⟨p, xs, rfl, h1, h2⟩ := ra.tup
  obtain ⟨v, h3, h4⟩ := atD_at h2 e
  exact ⟨p, xs, _, v, rfl, rb.int, SqT.of (hl _ _ h1), h3, q v Hk H (Nx.refl hl) h4⟩
def fIxL (a : En → Option (List Dat)) (b : En → Option Dat) : En → Option Dat := fun ρ => (a ρ).bind fun ds => (b ρ).bind fun y => dIxL ds y
theorem se_ixL (ha : SW X C a ua la) (hb : SE X C b ub fb) (hs : PlainIx b := by exact fun _ _ => rfl) : SE X C (.Subscript a b pos) (tOp (rIxL X.K) ua ub) (fIxL la fb) := by
  obtain ⟨pa, oa⟩ := ha
  obtain ⟨pb, ob⟩ := hb
  refine ⟨pe_ix ix_list pa pb hs, fun Hk H σ ρ d r e Q q => ?_⟩
  unfold fIxL at e
  obtain ⟨ds, e1, e⟩ := Option.bind_eq_some_iff.mp e
  obtain ⟨y, e2, e⟩ := Option.bind_eq_some_iff.mp e
  refine oa Hk H σ ρ ds r e1 _ fun l xs Hk1 H1 n1 h1 r1 => ?_
  refine ob Hk1 H1 σ ρ y (r.nx n1) e2 _ fun v2 Hk2 H2 n2 r2 => ?_
  cases y <;> simp only [dIxL, reduceCtorEq] at e
  obtain ⟨v, h3, h4⟩ := atD_at (r1.mono n2.kk) e
  exact ⟨l, xs, _, v, rfl, r2.int, SqL.of (n2.hh _ _ h1), h3, q v Hk2 H2 (n1.trans n2) h4⟩
end
end L3
set_option maxHeartbeats 4000000
namespace L3
open PySem L2

/-! ### sequences: a list or a tuple -/
def OkQ (C : Addr) (t : TE) (f : En → Option (List Dat)) : Prop := ∀ (Hk H : Hp) (σ : L2.St) (ρ : En) (ds : List Dat), Rel C Hk H σ ρ → f ρ = some ds → ∀ Q : VK,
  (∀ l xs Hk' H', Nx Hk H Hk' H' → (H' l = some (.lst xs) ∨ Hk' l = some (.tup xs)) → RpL C Hk' ds xs → Q (.ref l) H') → t σ H Q
structure SQ (X : Cx) (C : Addr) (e : Expr) (t : TE) (f : En → Option (List Dat)) : Prop where
  p : PE X e t
  o : OkQ C t f
def seqOf : Dat → Option (List Dat)
  | .lst ds => some ds
  | .tup ds => some ds
  | _ => none
def fSq (a : En → Option Dat) : En → Option (List Dat) := fun ρ => (a ρ).bind seqOf
def intOf : Dat → Option Int
  | .int i => some i
  | _ => none
def intsOf : List Dat → Option (List Int)
  | [] => some []
  | d :: ds => (intOf d).bind fun i => (intsOf ds).bind fun r => some (i :: r)
def blsOf : List Dat → Option (List Bool)
  | [] => some []
  | d :: ds => (blOf d).bind fun i => (blsOf ds).bind fun r => some (i :: r)
theorem intsOf_map : ∀ {ds : List Dat} {ns : List Int}, intsOf ds = some ns → ds = ns.map Dat.int
  | [], ns, h => by cases h; rfl
  | d :: ds, ns, h => by
    unfold intsOf at h
    obtain ⟨i, e1, h⟩ := Option.bind_eq_some_iff.mp h
    obtain ⟨r, e2, h⟩ := Option.bind_eq_some_iff.mp h
    cases h
    cases d <;> simp only [intOf, reduceCtorEq] at e1
    cases e1
    rw [intsOf_map e2]; rfl
theorem blsOf_map : ∀ {ds : List Dat} {ns : List Bool}, blsOf ds = some ns → ds = ns.map Dat.bl
  | [], ns, h => by cases h; rfl
  | d :: ds, ns, h => by
    unfold blsOf at h
    obtain ⟨i, e1, h⟩ := Option.bind_eq_some_iff.mp h
    obtain ⟨r, e2, h⟩ := Option.bind_eq_some_iff.mp h
    cases h
    cases d <;> simp only [blOf, reduceCtorEq] at e1
    cases e1
    rw [blsOf_map e2]; rfl
@[simp] theorem intsOf_ints : ∀ ns : List Int, intsOf (ns.map Dat.int) = some ns
  | [] => rfl
  | n :: ns => by
    show (intOf (.int n)).bind (fun i => (intsOf (ns.map Dat.int)).bind fun r => some (i :: r)) = _
    rw [intsOf_ints ns]; rfl
@[simp] theorem blsOf_bls : ∀ ns : List Bool, blsOf (ns.map Dat.bl) = some ns
  | [] => rfl
  | n :: ns => by
    show (blOf (.bl n)).bind (fun i => (blsOf (ns.map Dat.bl)).bind fun r => some (i :: r)) = _
    rw [blsOf_bls ns]; rfl

section
variable {C : Addr} {X : Cx} {e a b c : Expr} {es : List Expr} {pos p : Pos} {f fa fb fc : En → Option Dat} {la lb : En → Option (List Dat)} {ua ub uc ue : TE} {ga gb : TA}
theorem SE.sq (h : SE X C e ue f) : SQ X C e ue (fSq f) := by
  obtain ⟨p, o⟩ := h
  refine ⟨p, fun Hk H σ ρ ds r e Q q => ?_⟩
  unfold fSq at e
  obtain ⟨x, e1, e⟩ := Option.bind_eq_some_iff.mp e
  refine o Hk H σ ρ x r e1 _ fun v Hk1 H1 n1 r1 => ?_
  cases x <;> simp only [seqOf, reduceCtorEq] at e <;> cases e
  · obtain ⟨l, xs, rfl, h1, h2⟩ := r1.tup
    exact q l xs Hk1 H1 n1 (.inr h1) h2
  · obtain ⟨l, xs, rfl, h1, h2⟩ := r1.lst
    exact q l xs Hk1 H1 n1 (.inl (n1.kh _ _ h1)) h2
theorem SW.sq (h : SW X C e ue la) : SQ X C e ue la := by
  obtain ⟨p, o⟩ := h
  exact ⟨p, fun Hk H σ ρ ds r e Q q => o Hk H σ ρ ds r e Q fun l xs Hk1 H1 n1 h1 r1 => q l xs Hk1 H1 n1 (.inl h1) r1⟩
theorem se_ix (ha : SQ X C a ua la) (hb : SE X C b ub fb) (hs : PlainIx b := by exact fun _ _ => rfl) : SE X C (.Subscript a b pos) (tOp (rIx X.K) ua ub) (fIxL la fb) := by
  obtain ⟨pa, oa⟩ := ha
  obtain ⟨pb, ob⟩ := hb
  refine ⟨pe_ix ix_seq pa pb hs, fun Hk H σ ρ d r e Q q => ?_⟩
  unfold fIxL at e
  obtain ⟨ds, e1, e⟩ := Option.bind_eq_some_iff.mp e
  obtain ⟨y, e2, e⟩ := Option.bind_eq_some_iff.mp e
  refine oa Hk H σ ρ ds r e1 _ fun l xs Hk1 H1 n1 h1 r1 => ?_
  refine ob Hk1 H1 σ ρ y (r.nx n1) e2 _ fun v2 Hk2 H2 n2 r2 => ?_
  cases y <;> simp only [dIxL, reduceCtorEq] at e
  obtain ⟨v, h3, h4⟩ := atD_at (r1.mono n2.kk) e
  rcases h1 with h1 | h1
  · exact .inl ⟨l, xs, _, v, rfl, r2.int, SqL.of (n2.hh _ _ h1), h3, q v Hk2 H2 (n1.trans n2) h4⟩
  · exact .inr (.inl ⟨l, xs, _, v, rfl, r2.int, SqT.of (n2.kh _ _ (n2.kk _ _ h1)), h3, q v Hk2 H2 (n1.trans n2) h4⟩)
/-! ### built-ins -/
theorem ok_cb {r : List V → Hp → VK → Prop} {g : List Dat → Option Dat} {n : Nat} (hr : OkC C r g) (ha : OkA C n ga la) : OkE C (tCB r ga) (fC g la) := fun Hk H σ ρ d rl e Q q => by
  unfold fC at e
  obtain ⟨ds, e1, e⟩ := Option.bind_eq_some_iff.mp e
  refine ha.2 Hk H σ ρ ds rl e1 _ fun vs Hk1 H1 n1 r1 => ?_
  exact hr Hk1 H1 vs ds d n1.kh r1 e Q fun v Hk2 H2 n2 r2 => q v Hk2 H2 (n1.trans n2) r2
theorem se_callB {id : String} {x : Str} {r : List V → Hp → VK → Prop} {g : List Dat → Option Dat} (hc : CallR X (.builtin id) r) (hr : OkC C r g) (hm : X.mg x = none) (ha : SA X C (e :: es) ga la) (hv : bootBuiltins x = some (.builtin id)) (hg : Gl X x := by rfl)
    (hn : x ≠ "__name__" := by decide) (hdb : (x == ("__debug__" : Str)) = false := by decide)
    (he : starEach (e :: es) X.env = (false, eval e X.env) :: starEach es X.env := by rfl) (hpl : (backTo pos (starEach es X.env)).any (·.1) = false := by rfl) : SE X C (.Call (.Name x p) (e :: es) [] pos) (tCB r ga) (fC g la) :=
  ⟨pe_callB hc hg hm hv ha.p hn hdb he hpl, ok_cb hr ha.o⟩
theorem se_callT {T : String} {x : Str} {r : List V → Hp → VK → Prop} {g : List Dat → Option Dat} (hc : CallR X (.type T) r) (hr : OkC C r g) (hm : X.mg x = none) (ha : SA X C (e :: es) ga la) (hv : bootBuiltins x = some (.type T)) (hg : Gl X x := by rfl)
    (hn : x ≠ "__name__" := by decide) (hdb : (x == ("__debug__" : Str)) = false := by decide)
    (he : starEach (e :: es) X.env = (false, eval e X.env) :: starEach es X.env := by rfl) (hpl : (backTo pos (starEach es X.env)).any (·.1) = false := by rfl) : SE X C (.Call (.Name x p) (e :: es) [] pos) (tCB r ga) (fC g la) :=
  ⟨pe_callTy hc hg hm hv ha.p hn hdb he hpl, ok_cb hr ha.o⟩
/-- a call of one sequence -/
def OkCQ (C : Addr) (r : List V → Hp → VK → Prop) (g : List Dat → Option Dat) : Prop := ∀ (Hk H : Hp) (l : Addr) (xs : List V) (ds : List Dat) (d : Dat), Le Hk H → (H l = some (.lst xs) ∨ Hk l = some (.tup xs)) → RpL C Hk ds xs → g ds = some d →
  ∀ Q : VK, (∀ v Hk' H', Nx Hk H Hk' H' → Rp C Hk' d v → Q v H') → r [.ref l] H Q
/-- a call of one list -/
def OkCW (C : Addr) (r : List V → Hp → VK → Prop) (g : List Dat → Option Dat) : Prop := ∀ (Hk H : Hp) (l : Addr) (xs : List V) (ds : List Dat) (d : Dat), Le Hk H → H l = some (.lst xs) → RpL C Hk ds xs → g ds = some d →
  ∀ Q : VK, (∀ v Hk' H', Nx Hk H Hk' H' → Rp C Hk' d v → Q v H') → r [.ref l] H Q
theorem ok_cbQ {r : List V → Hp → VK → Prop} {g : List Dat → Option Dat} (hr : OkCQ C r g) (ha : OkQ C ua la) : OkE C (tCB r (tCons ua tNil)) (fC g la) := fun Hk H σ ρ d rl e Q q => by
  unfold fC at e
  obtain ⟨ds, e1, e⟩ := Option.bind_eq_some_iff.mp e
  refine ha Hk H σ ρ ds rl e1 _ fun l xs Hk1 H1 n1 h1 r1 => ?_
  exact hr Hk1 H1 l xs ds d n1.kh h1 r1 e Q fun v Hk2 H2 n2 r2 => q v Hk2 H2 (n1.trans n2) r2
theorem ok_cbW {r : List V → Hp → VK → Prop} {g : List Dat → Option Dat} (hr : OkCW C r g) (ha : OkW C ua la) : OkE C (tCB r (tCons ua tNil)) (fC g la) := fun Hk H σ ρ d rl e Q q => by
  unfold fC at e
  obtain ⟨ds, e1, e⟩ := Option.bind_eq_some_iff.mp e
  refine ha Hk H σ ρ ds rl e1 _ fun l xs Hk1 H1 n1 h1 r1 => ?_
  exact hr Hk1 H1 l xs ds d n1.kh h1 r1 e Q fun v Hk2 H2 n2 r2 => q v Hk2 H2 (n1.trans n2) r2
theorem se_callBQ {id : String} {x : Str} {r : List V → Hp → VK → Prop} {g : List Dat → Option Dat} (hc : CallR X (.builtin id) r) (hr : OkCQ C r g) (hm : X.mg x = none) (ha : SQ X C e ue la) (hv : bootBuiltins x = some (.builtin id)) (hg : Gl X x := by rfl)
    (hn : x ≠ "__name__" := by decide) (hdb : (x == ("__debug__" : Str)) = false := by decide)
    (he : starEach [e] X.env = [(false, eval e X.env)] := by rfl) : SE X C (.Call (.Name x p) [e] [] pos) (tCB r (tCons ue tNil)) (fC g la) :=
  ⟨pe_callB hc hg hm hv (pa_cons ha.p pa_nil he) hn hdb he rfl, ok_cbQ hr ha.o⟩
theorem se_callBW {id : String} {x : Str} {r : List V → Hp → VK → Prop} {g : List Dat → Option Dat} (hc : CallR X (.builtin id) r) (hr : OkCW C r g) (hm : X.mg x = none) (ha : SW X C e ue la) (hv : bootBuiltins x = some (.builtin id)) (hg : Gl X x := by rfl)
    (hn : x ≠ "__name__" := by decide) (hdb : (x == ("__debug__" : Str)) = false := by decide)
    (he : starEach [e] X.env = [(false, eval e X.env)] := by rfl) : SE X C (.Call (.Name x p) [e] [] pos) (tCB r (tCons ue tNil)) (fC g la) :=
  ⟨pe_callB hc hg hm hv (pa_cons ha.p pa_nil he) hn hdb he rfl, ok_cbW hr ha.o⟩
theorem se_callTQ {T : String} {x : Str} {r : List V → Hp → VK → Prop} {g : List Dat → Option Dat} (hc : CallR X (.type T) r) (hr : OkCQ C r g) (hm : X.mg x = none) (ha : SQ X C e ue la) (hv : bootBuiltins x = some (.type T)) (hg : Gl X x := by rfl)
    (hn : x ≠ "__name__" := by decide) (hdb : (x == ("__debug__" : Str)) = false := by decide)
    (he : starEach [e] X.env = [(false, eval e X.env)] := by rfl) : SE X C (.Call (.Name x p) [e] [] pos) (tCB r (tCons ue tNil)) (fC g la) :=
  ⟨pe_callTy hc hg hm hv (pa_cons ha.p pa_nil he) hn hdb he rfl, ok_cbQ hr ha.o⟩
def dLen (ds : List Dat) : Option Dat := some (.int ds.length)
def dTup (ds : List Dat) : Option Dat := some (.tup ds)
def dSum (ds : List Dat) : Option Dat := (intsOf ds).bind fun ns => some (.int ns.sum)
def dAny (ds : List Dat) : Option Dat := (blsOf ds).bind fun ns => some (.bl (ns.any id))
def dAll (ds : List Dat) : Option Dat := (blsOf ds).bind fun ns => some (.bl (ns.all id))
def dAbs : List Dat → Option Dat
  | [.int i] => some (.int (if i < 0 then -i else i))
  | _ => none
def dInt : List Dat → Option Dat
  | [.int i] => some (.int i)
  | [.bl b] => some (.int (if b = true then 1 else 0))
  | _ => none
def dMax2 : List Dat → Option Dat
  | [.int i, .int j] => some (.int (if j > i then j else i))
  | _ => none
def dMin2 : List Dat → Option Dat
  | [.int i, .int j] => some (.int (if j < i then j else i))
  | _ => none
theorem se_len (hm : X.mg "len" = none) (ha : SQ X C e ue la) (hg : Gl X "len" := by rfl) (he : starEach [e] X.env = [(false, eval e X.env)] := by rfl) :
    SE X C (.Call (.Name "len" p) [e] [] pos) (tCB (fun xs H Q => ∃ p ys, xs = [.ref p] ∧ (SqL X.K H p ys ∨ SqT X.K H p ys) ∧ Q (.int ys.length) H) (tCons ue tNil)) (fC dLen la) :=
  se_callBQ call_len_seq (fun Hk H l xs ds d hl h r e Q q => by
    cases e
    refine ⟨l, xs, rfl, ?_, ?_⟩
    · rcases h with h | h
      · exact .inl (SqL.of h)
      · exact .inr (SqT.of (hl _ _ h))
    · rw [r.length]; exact q _ Hk H (Nx.refl hl) rp_int) hm ha PySem.boot_len hg (by decide) (by decide) he
theorem se_tupof (hm : X.mg "tuple" = none) (ha : SQ X C e ue la) (hg : Gl X "tuple" := by rfl) (he : starEach [e] X.env = [(false, eval e X.env)] := by rfl) :
    SE X C (.Call (.Name "tuple" p) [e] [] pos) (tCB (fun xs H Q => ∃ p ys, xs = [.ref p] ∧ ((SqL X.K H p ys ∧ ∀ l, H l = none → Q (.ref l) (upd H l (.tup ys))) ∨ (SqT X.K H p ys ∧ Q (.ref p) H))) (tCons ue tNil)) (fC dTup la) :=
  se_callTQ call_tuple_of (fun Hk H l xs ds d hl h r e Q q => by
    cases e
    refine ⟨l, xs, rfl, ?_⟩
    rcases h with h | h
    · exact .inl ⟨SqL.of h, fun p hp => q _ _ _ (Nx.new hl hp) (rp_tup upd_same (r.mono (Le.new (hl.free hp))))⟩
    · exact .inr ⟨SqT.of (hl _ _ h), q _ Hk H (Nx.refl hl) (rp_tup h r)⟩) hm ha (by decide +kernel) hg (by decide) (by decide) he
theorem se_sum (hc : X.calm = true) (hm : X.mg "sum" = none) (ha : SW X C e ue la) (hg : Gl X "sum" := by rfl) (he : starEach [e] X.env = [(false, eval e X.env)] := by rfl) :
    SE X C (.Call (.Name "sum" p) [e] [] pos) (tCB (rSum X.K) (tCons ue tNil)) (fC dSum la) :=
  se_callBW (cr_sum hc) (fun Hk H l xs ds d hl h r e Q q => by
    unfold dSum at e
    obtain ⟨ns, e1, e⟩ := Option.bind_eq_some_iff.mp e
    cases e
    rw [intsOf_map e1] at r
    rw [r.ints] at h
    exact ⟨l, ns, rfl, SqL.of h, q _ Hk H (Nx.refl hl) rp_int⟩) hm ha (by decide +kernel) hg (by decide) (by decide) he
theorem se_any (hc : X.calm = true) (hm : X.mg "any" = none) (ha : SW X C e ue la) (hg : Gl X "any" := by rfl) (he : starEach [e] X.env = [(false, eval e X.env)] := by rfl) :
    SE X C (.Call (.Name "any" p) [e] [] pos) (tCB (rAny X.K) (tCons ue tNil)) (fC dAny la) :=
  se_callBW (cr_any hc) (fun Hk H l xs ds d hl h r e Q q => by
    unfold dAny at e
    obtain ⟨ns, e1, e⟩ := Option.bind_eq_some_iff.mp e
    cases e
    rw [blsOf_map e1] at r
    rw [r.bls] at h
    exact ⟨l, ns, rfl, SqL.of h, q _ Hk H (Nx.refl hl) rp_bl⟩) hm ha (by decide +kernel) hg (by decide) (by decide) he
theorem se_all (hc : X.calm = true) (hm : X.mg "all" = none) (ha : SW X C e ue la) (hg : Gl X "all" := by rfl) (he : starEach [e] X.env = [(false, eval e X.env)] := by rfl) :
    SE X C (.Call (.Name "all" p) [e] [] pos) (tCB (rAll X.K) (tCons ue tNil)) (fC dAll la) :=
  se_callBW (cr_all hc) (fun Hk H l xs ds d hl h r e Q q => by
    unfold dAll at e
    obtain ⟨ns, e1, e⟩ := Option.bind_eq_some_iff.mp e
    cases e
    rw [blsOf_map e1] at r
    rw [r.bls] at h
    exact ⟨l, ns, rfl, SqL.of h, q _ Hk H (Nx.refl hl) rp_bl⟩) hm ha (by decide +kernel) hg (by decide) (by decide) he
theorem se_abs (hm : X.mg "abs" = none) (ha : SE X C e ue f) (hg : Gl X "abs" := by rfl) (he : starEach [e] X.env = [(false, eval e X.env)] := by rfl) :
    SE X C (.Call (.Name "abs" p) [e] [] pos) (tCB (fun xs H Q => ∃ i, xs = [.int i] ∧ Q (.int (if i < 0 then -i else i)) H) (tCons ue tNil)) (fC dAbs (fCons f fNil)) :=
  se_callB call_abs (fun Hk H xs ds d hl r e Q q => by
    unfold dAbs at e
    split at e
    · rename_i i
      cases e
      obtain ⟨x, y, rfl, h1, h2⟩ := r.cons
      rw [h1.int, h2.nil]
      exact ⟨i, rfl, q _ Hk H (Nx.refl hl) rp_int⟩
    · cases e) hm (sa_cons ha sa_nil he) (by decide +kernel) hg (by decide) (by decide) he rfl
theorem se_intof (hm : X.mg "int" = none) (ha : SE X C e ue f) (hg : Gl X "int" := by rfl) (he : starEach [e] X.env = [(false, eval e X.env)] := by rfl) :
    SE X C (.Call (.Name "int" p) [e] [] pos) (tCB (fun xs H Q => (∃ i, xs = [.int i] ∧ Q (.int i) H) ∨ ∃ k, xs = [.bl k] ∧ Q (.int (if k then 1 else 0)) H) (tCons ue tNil)) (fC dInt (fCons f fNil)) :=
  se_callT call_int1 (fun Hk H xs ds d hl r e Q q => by
    unfold dInt at e
    split at e
    · rename_i i
      cases e
      obtain ⟨x, y, rfl, h1, h2⟩ := r.cons
      rw [h1.int, h2.nil]
      exact .inl ⟨i, rfl, q _ Hk H (Nx.refl hl) rp_int⟩
    · rename_i b
      cases e
      obtain ⟨x, y, rfl, h1, h2⟩ := r.cons
      rw [h1.bl, h2.nil]
      exact .inr ⟨b, rfl, q _ Hk H (Nx.refl hl) rp_int⟩
    · cases e) hm (sa_cons ha sa_nil he) (by decide +kernel) hg (by decide) (by decide) he rfl
theorem se_max2 (hc : X.calm = true) (hm : X.mg "max" = none) (ha : SA X C [a, b] ga la) (hg : Gl X "max" := by rfl) (he : starEach [a, b] X.env = (false, eval a X.env) :: starEach [b] X.env := by rfl) (hpl : (backTo pos (starEach [b] X.env)).any (·.1) = false := by rfl) :
    SE X C (.Call (.Name "max" p) [a, b] [] pos) (tCB (fun xs H Q => ∃ i j, xs = [.int i, .int j] ∧ Q (.int (if j > i then j else i)) H) ga) (fC dMax2 la) :=
  se_callB (call_max2 hc) (fun Hk H xs ds d hl r e Q q => by
    unfold dMax2 at e
    split at e
    · rename_i i j
      cases e
      obtain ⟨x, y, rfl, h1, h2⟩ := r.cons
      obtain ⟨z, y, rfl, h3, h4⟩ := h2.cons
      rw [h1.int, h3.int, h4.nil]
      exact ⟨i, j, rfl, q _ Hk H (Nx.refl hl) rp_int⟩
    · cases e) hm ha (by decide +kernel) hg (by decide) (by decide) he hpl
theorem se_min2 (hc : X.calm = true) (hm : X.mg "min" = none) (ha : SA X C [a, b] ga la) (hg : Gl X "min" := by rfl) (he : starEach [a, b] X.env = (false, eval a X.env) :: starEach [b] X.env := by rfl) (hpl : (backTo pos (starEach [b] X.env)).any (·.1) = false := by rfl) :
    SE X C (.Call (.Name "min" p) [a, b] [] pos) (tCB (fun xs H Q => ∃ i j, xs = [.int i, .int j] ∧ Q (.int (if j < i then j else i)) H) ga) (fC dMin2 la) :=
  se_callB (call_min2 hc) (fun Hk H xs ds d hl r e Q q => by
    unfold dMin2 at e
    split at e
    · rename_i i j
      cases e
      obtain ⟨x, y, rfl, h1, h2⟩ := r.cons
      obtain ⟨z, y, rfl, h3, h4⟩ := h2.cons
      rw [h1.int, h3.int, h4.nil]
      exact ⟨i, j, rfl, q _ Hk H (Nx.refl hl) rp_int⟩
    · cases e) hm ha (by decide +kernel) hg (by decide) (by decide) he hpl
/-- max([a, b, ..]) of ints -/
def dMaxL (ds : List Dat) : Option Dat := (intsOf ds).bind fun ns => match ns with
  | [] => none
  | n :: r => some (.int (r.foldl max n))
theorem foldl_max : ∀ (r : List Int) (n : Int), n ≤ r.foldl max n ∧ (∀ y ∈ r, y ≤ r.foldl max n) ∧ (r.foldl max n = n ∨ r.foldl max n ∈ r)
  | [], n => ⟨Int.le_refl _, fun _ h => (nomatch h), .inl rfl⟩
  | m :: r, n => by
    obtain ⟨h1, h2, h3⟩ := foldl_max r (max n m)
    show n ≤ r.foldl max (max n m) ∧ (∀ y ∈ m :: r, y ≤ r.foldl max (max n m)) ∧ (r.foldl max (max n m) = n ∨ r.foldl max (max n m) ∈ m :: r)
    refine ⟨by omega, fun y hy => ?_, ?_⟩
    · rcases List.mem_cons.mp hy with e | hy
      · rw [e]; omega
      · exact h2 y hy
    · rcases h3 with e | e
      · by_cases q : m ≤ n
        · left; rw [e]; omega
        · right; rw [e]; exact List.mem_cons.mpr (.inl (by omega))
      · exact .inr (List.mem_cons_of_mem _ e)
theorem se_maxL (hc : X.calm = true) (hm : X.mg "max" = none) (ha : SW X C e ue la) (hg : Gl X "max" := by rfl) (he : starEach [e] X.env = [(false, eval e X.env)] := by rfl) :
    SE X C (.Call (.Name "max" p) [e] [] pos) (tCB (rMax X.K) (tCons ue tNil)) (fC dMaxL la) :=
  se_callBW (cr_max hc) (fun Hk H l xs ds d hl h r e Q q => by
    unfold dMaxL at e
    obtain ⟨ns, e1, e⟩ := Option.bind_eq_some_iff.mp e
    rw [intsOf_map e1] at r
    rw [r.ints] at h
    cases ns with
    | nil => cases e
    | cons n t =>
      cases e
      refine ⟨l, n :: t, rfl, SqL.of h, Nat.succ_pos _, fun m hm1 hm2 => ?_⟩
      obtain ⟨h1, h2, h3⟩ := foldl_max t n
      have em : m = t.foldl max n := by
        have k1 : t.foldl max n ≤ m := by
          rcases h3 with z | z
          · rw [z]; exact hm2 n (List.mem_cons_self ..)
          · exact hm2 _ (List.mem_cons_of_mem _ z)
        have k2 : m ≤ t.foldl max n := by
          rcases List.mem_cons.mp hm1 with z | z
          · rw [z]; exact h1
          · exact h2 m z
        omega
      rw [em]
      exact q _ Hk H (Nx.refl hl) rp_int) hm ha (by decide +kernel) hg (by decide) (by decide) he
/-! ### lists made -/
/-- list(x) -/
theorem sl_listof (hm : X.mg "list" = none) (ha : SQ X C e ue la) (hg : Gl X "list" := by rfl) (he : starEach [e] X.env = [(false, eval e X.env)] := by rfl) :
    SL X C (.Call (.Name "list" p) [e] [] pos) (tCB (fun xs H Q => ∃ p ys, xs = [.ref p] ∧ (SqL X.K H p ys ∨ SqT X.K H p ys) ∧ ∀ l, H l = none → Q (.ref l) (upd H l (.lst ys))) (tCons ue tNil)) la := by
  refine ⟨pe_callTy call_list_of hg hm (by decide +kernel) (pa_cons ha.p pa_nil he) (by decide) (by decide) he rfl, fun Hk H σ ρ ds r e Q q => ?_⟩
  refine ha.o Hk H σ ρ ds r e _ fun l xs Hk1 H1 n1 h1 r1 => ?_
  refine ⟨l, xs, rfl, ?_, fun p hp => q p xs Hk1 _ (n1.trans (Nx.own n1.kh hp)) (n1.hh.free hp) (n1.kh.free hp) upd_same r1⟩
  rcases h1 with h | h
  · exact .inl (SqL.of h)
  · exact .inr (SqT.of (n1.kh _ _ h))
/-- xs + ys -/
def fCat (a b : En → Option (List Dat)) : En → Option (List Dat) := fun ρ => (a ρ).bind fun x => (b ρ).bind fun y => if x.length + y.length ≤ 100000 then some (x ++ y) else none
theorem sz_of {n : Nat} (h : n ≤ 100000) : n ≤ sizeLine := Nat.le_trans h (by decide)
theorem sz_lt {n : Nat} (h : n < 100000) : n < sizeLine := Nat.lt_of_lt_of_le h (by decide)
theorem sl_cat (ha : SW X C a ua la) (hb : SW X C b ub lb) : SL X C (.BinOp a .Add b pos) (tOp rCat ua ub) (fCat la lb) := by
  refine ⟨pe_op op_cat ha.p hb.p, fun Hk H σ ρ ds r e Q q => ?_⟩
  unfold fCat at e
  obtain ⟨x, e1, e⟩ := Option.bind_eq_some_iff.mp e
  obtain ⟨y, e2, e⟩ := Option.bind_eq_some_iff.mp e
  split at e
  · rename_i hz
    cases e
    refine ha.o Hk H σ ρ x r e1 _ fun l xs Hk1 H1 n1 h1 r1 => ?_
    refine hb.o Hk1 H1 σ ρ y (r.nx n1) e2 _ fun m ys Hk2 H2 n2 h2 r2 => ?_
    have n12 := n1.trans n2
    refine ⟨l, m, xs, ys, rfl, rfl, n2.hh _ _ h1, h2, by rw [r1.length, r2.length]; exact sz_of hz, fun p hp => ?_⟩
    exact q p (xs ++ ys) Hk2 _ (n12.trans (Nx.own n2.kh hp)) (n12.hh.free hp) (n12.kh.free hp) upd_same ((r1.mono n2.kk).append r2)
  · cases e
/-- xs[::-1] -/
theorem sl_rev {k : Nat} {p1 p2 p3 : Pos} (ha : SW X C a ua la) : SL X C (.Subscript a (.Slice none none (some (.UnaryOp .USub (.Constant (.int 1) k p1) p2)) p3) pos) (tRevL X.K ua) (fun ρ => (la ρ).bind fun ds => some ds.reverse) := by
  refine ⟨pe_revL ha.p, fun Hk H σ ρ ds r e Q q => ?_⟩
  obtain ⟨x, e1, e⟩ := Option.bind_eq_some_iff.mp e
  cases e
  refine ha.o Hk H σ ρ x r e1 _ fun l xs Hk1 H1 n1 h1 r1 => ?_
  exact ⟨l, xs, rfl, SqL.of h1, fun p hp => q p xs.reverse Hk1 _ (n1.trans (Nx.own n1.kh hp)) (n1.hh.free hp) (n1.kh.free hp) upd_same r1.reverse⟩
/-- xs[a:], xs[:b] (a, b from 0 on) -/
def fDrop (a : En → Option (List Dat)) (b : En → Option Dat) : En → Option (List Dat) := fun ρ => (a ρ).bind fun x => (b ρ).bind fun y => (intOf y).bind fun i => if 0 ≤ i then some (x.drop i.toNat) else none
def fTake (a : En → Option (List Dat)) (b : En → Option Dat) : En → Option (List Dat) := fun ρ => (a ρ).bind fun x => (b ρ).bind fun y => (intOf y).bind fun i => if 0 ≤ i then some (x.take i.toNat) else none
theorem cut_drop {xs : List V} {i : Int} (h : 0 ≤ i) : cutV xs (some i) none = xs.drop i.toNat := by
  unfold cutV
  obtain ⟨k, rfl⟩ : ∃ k : Nat, i = (k : Int) := ⟨i.toNat, by omega⟩
  rw [HT.sIx_none, HT.sIx_nat, Int.toNat_natCast]
  by_cases q : k ≤ xs.length
  · rw [Nat.min_eq_left q]
    exact List.take_of_length_le (by rw [List.length_drop]; exact Nat.le_refl _)
  · rw [Nat.min_eq_right (by omega), List.drop_eq_nil_of_le (Nat.le_refl _), List.drop_eq_nil_of_le (by omega)]
    exact List.take_nil
theorem cut_take {xs : List V} {i : Int} (h : 0 ≤ i) : cutV xs none (some i) = xs.take i.toNat := by
  unfold cutV
  obtain ⟨k, rfl⟩ : ∃ k : Nat, i = (k : Int) := ⟨i.toNat, by omega⟩
  rw [HT.sIx_none, HT.sIx_nat, Int.toNat_natCast, List.drop_zero, Nat.sub_zero]
  by_cases q : k ≤ xs.length
  · rw [Nat.min_eq_left q]
  · rw [Nat.min_eq_right (by omega), List.take_of_length_le (Nat.le_refl _), List.take_of_length_le (by omega)]
theorem sl_drop {p2 : Pos} (ha : SW X C a ua la) (hb : SE X C b ub fb) : SL X C (.Subscript a (.Slice (some b) none none p2) pos) (tSl (rSlL X.K) ua (tPart ub) tNoPart) (fDrop la fb) := by
  refine ⟨pe_slice sl_list ha.p (po_some hb.p) po_none, fun Hk H σ ρ ds r e Q q => ?_⟩
  unfold fDrop at e
  obtain ⟨x, e1, e⟩ := Option.bind_eq_some_iff.mp e
  obtain ⟨y, e2, e⟩ := Option.bind_eq_some_iff.mp e
  obtain ⟨i, e3, e⟩ := Option.bind_eq_some_iff.mp e
  split at e
  · rename_i h0
    cases e
    cases y <;> simp only [intOf, reduceCtorEq] at e3
    cases e3
    refine ha.o Hk H σ ρ x r e1 _ fun l xs Hk1 H1 n1 h1 r1 => ?_
    refine hb.o Hk1 H1 σ ρ _ (r.nx n1) e2 _ fun v Hk2 H2 n2 r2 => ?_
    have n12 := n1.trans n2
    refine ⟨i, r2.int, l, xs, rfl, SqL.of (n2.hh _ _ h1), fun p hp => ?_⟩
    exact q p _ Hk2 _ (n12.trans (Nx.own n2.kh hp)) (n12.hh.free hp) (n12.kh.free hp) upd_same (by rw [cut_drop h0]; exact (r1.mono n2.kk).drop _)
  · cases e
theorem sl_take {p2 : Pos} (ha : SW X C a ua la) (hb : SE X C b ub fb) : SL X C (.Subscript a (.Slice none (some b) none p2) pos) (tSl (rSlL X.K) ua tNoPart (tPart ub)) (fTake la fb) := by
  refine ⟨pe_slice sl_list ha.p po_none (po_some hb.p), fun Hk H σ ρ ds r e Q q => ?_⟩
  unfold fTake at e
  obtain ⟨x, e1, e⟩ := Option.bind_eq_some_iff.mp e
  obtain ⟨y, e2, e⟩ := Option.bind_eq_some_iff.mp e
  obtain ⟨i, e3, e⟩ := Option.bind_eq_some_iff.mp e
  split at e
  · rename_i h0
    cases e
    cases y <;> simp only [intOf, reduceCtorEq] at e3
    cases e3
    refine ha.o Hk H σ ρ x r e1 _ fun l xs Hk1 H1 n1 h1 r1 => ?_
    refine hb.o Hk1 H1 σ ρ _ (r.nx n1) e2 _ fun v Hk2 H2 n2 r2 => ?_
    have n12 := n1.trans n2
    refine ⟨i, r2.int, l, xs, rfl, SqL.of (n2.hh _ _ h1), fun p hp => ?_⟩
    exact q p _ Hk2 _ (n12.trans (Nx.own n2.kh hp)) (n12.hh.free hp) (n12.kh.free hp) upd_same (by rw [cut_take h0]; exact (r1.mono n2.kk).take _)
  · cases e
/-- t[:2] of a tuple of more than two -/
def fTakeT (k : Nat) (a : En → Option Dat) : En → Option Dat := fun ρ => (a ρ).bind fun x => (tupOf x).bind fun ds => if k < ds.length then some (.tup (ds.take k)) else none
theorem se_takeT {p2 : Pos} {k : Nat} {j} (ha : SE X C a ua fa) {p3 : Pos} : SE X C (.Subscript a (.Slice none (some (.Constant (.int (k : Int)) j p3)) none p2) pos) (tSl (rSlT X.K) ua tNoPart (tPart (tC (.int (k : Int))))) (fTakeT k fa) := by
  refine ⟨pe_slice sl_tup ha.p po_none (po_some pe_int), fun Hk H σ ρ d r e Q q => ?_⟩
  unfold fTakeT at e
  obtain ⟨x, e1, e⟩ := Option.bind_eq_some_iff.mp e
  obtain ⟨ds, e2, e⟩ := Option.bind_eq_some_iff.mp e
  split at e
  · rename_i h0
    cases e
    cases x <;> simp only [tupOf, reduceCtorEq] at e2
    cases e2
    refine ha.o Hk H σ ρ _ r e1 _ fun v Hk1 H1 n1 r1 => ?_
    obtain ⟨l, xs, rfl, h1, r2⟩ := r1.tup
    refine ⟨(k : Int), rfl, l, xs, rfl, SqT.of (n1.kh _ _ h1), ?_, fun p hp => ?_⟩
    · rintro ⟨_, z⟩
      rw [HT.sIx_nat, r2.length] at z
      omega
    · have n2 : Nx Hk1 H1 _ _ := Nx.new (o := .tup (cutV xs none (some (k : Int)))) n1.kh hp
      refine q _ _ _ (n1.trans n2) (rp_tup upd_same ?_)
      have ec : cutV xs none (some (k : Int)) = xs.take k := by rw [cut_take (Int.natCast_nonneg k), Int.toNat_natCast]
      exact Eq.subst (motive := fun z => RpL C (upd Hk1 p (.tup (cutV xs none (some (k : Int))))) (ds.take k) z) ec.symm ((r2.mono n2.kk).take k)
  · cases e
end
end L3
set_option maxHeartbeats 4000000
namespace L3
open PySem L2 RZ

/-! ### defs -/
/-- the promise «the function is F» (n arguments) -/
def SpF (C : Addr) (n : Nat) (F : List Dat → Option Dat) : Sp := fun vs H Q _ => vs.length = n ∧ ∃ (Hk : Hp) (ds : List Dat) (d : Dat), Le Hk H ∧ RpL C Hk ds vs ∧ F ds = some d ∧ ∀ v Hk' H', Nx Hk H Hk' H' → Rp C Hk' d v → Q v H'
structure DefOk (P : Program) (w : World) (K : PySem.W.Frag) (mg : Str → Option Value) (base : Heap) (C : Addr) (k : Nat) (x : Str) (n : Nat) (F : List Dat → Option Dat) : Prop where
  ex : ∃ (f : Addr) (fd : FuncData) (ps : List Str) (dd : List Dat) (dvs : List V) (ds : List Value) (G : List Dat → Option Dat),
    FnOk P w K mg base CX0 k f fd ps (SpF C (n + dd.length) G) ∧ mg x = some (.ref f) ∧ PySem.W.keepIn K (.ref f) = true ∧ Binds K fd ps ds ∧ Vals dvs ds ∧ (∀ H, RpL C H dd dvs) ∧ F = fun as => G (as ++ dd)
/-- a call's reading -/
def tDef (C : Addr) (n : Nat) (F : List Dat → Option Dat) (t : TA) : TE := fun σ H Q => t σ H fun vs H1 => SpF C n F vs H1 Q E0
section
variable {C : Addr} {X : Cx} {e a b c o : Expr} {es : List Expr} {pos p apos : Pos} {f fa fb fc : En → Option Dat} {la lb : En → Option (List Dat)} {ua ub uc ue : TE} {ga gb : TA} {k n : Nat} {x m : Str} {F : List Dat → Option Dat}
theorem spf_app {dd : List Dat} {dvs : List V} {G : List Dat → Option Dat} {vs : List V} {H : Hp} {Q : VK} {E : XK} (hd : ∀ H, RpL C H dd dvs) (h : SpF C n (fun as => G (as ++ dd)) vs H Q E) : SpF C (n + dd.length) G (vs ++ dvs) H Q E := by
  obtain ⟨hn, Hk, ds, d, hl, r, e, q⟩ := h
  exact ⟨by rw [List.length_append, hn, (hd Hk).length], Hk, ds ++ dd, d, hl, r.append (hd Hk), e, q⟩
theorem pe_def (D : DefOk X.prog X.w X.K X.mg X.base C k x n F) (hr : Room k X.A) (ha : PA X (e :: es) ga) (hg : Gl X x) (hdb : (x == ("__debug__" : Str)) = false := by decide)
    (he : starEach (e :: es) X.env = (false, eval e X.env) :: starEach es X.env := by rfl) (hpl : (backTo pos (starEach es X.env)).any (·.1) = false := by rfl) : PE X (.Call (.Name x p) (e :: es) [] pos) (tDef C n F ga) := by
  obtain ⟨f, fd, ps, dd, dvs, ds, G, Fk, hm, hk, hb, hd, hdd, rfl⟩ := D.ex
  refine ⟨fun pins s σ H Q I h => ?_⟩
  refine wpAny_Call_Name_kw (ld_glob I hg hm ?_ hdb)
  refine PySem.W.callWith_K (h₀ := X.base) I.ok.mod.kin hk (thn (ha.run pos pins s σ H _ I h) fun us s1 ⟨vs, H1, I1, r, q⟩ => ⟨I1.kIn, ?_⟩) he hpl
  exact run_fn (E := E0) Fk hr hb hd pass0 I1 r (spf_app hdd q)
theorem ok_def (ha : OkA C n ga la) : OkE C (tDef C n F ga) (fC F la) := fun Hk H σ ρ d r e Q q => by
  unfold fC at e
  obtain ⟨ds, e1, e⟩ := Option.bind_eq_some_iff.mp e
  refine ha.2 Hk H σ ρ ds r e1 _ fun vs Hk1 H1 n1 r1 => ?_
  exact ⟨by rw [r1.length, ha.1 ρ ds e1], Hk1, ds, d, n1.kh, r1, e, fun v Hk2 H2 n2 r2 => q v Hk2 H2 (n1.trans n2) r2⟩
theorem se_call (D : DefOk X.prog X.w X.K X.mg X.base C k x (es.length + 1) F) (hr : Room k X.A) (ha : SA X C (e :: es) ga la) (hg : Gl X x := by rfl) (hdb : (x == ("__debug__" : Str)) = false := by decide)
    (he : starEach (e :: es) X.env = (false, eval e X.env) :: starEach es X.env := by rfl) (hpl : (backTo pos (starEach es X.env)).any (·.1) = false := by rfl) : SE X C (.Call (.Name x p) (e :: es) [] pos) (tDef C (es.length + 1) F ga) (fC F la) :=
  ⟨pe_def D hr ha.p hg hdb he hpl, ok_def ha.o⟩
/-! ### a class's making -/
def SpInit (C : Addr) (F : List Dat → Option Dat) : Sp := fun vs H Q _ => ∃ (x dx : Addr) (v : V) (H0 : Hp), vs = [.ref x, v] ∧ H0 x = none ∧ H0 dx = none ∧ dx ≠ x ∧ H = upd (upd H0 dx (.own x)) x (.ins C dx []) ∧
  ∃ (Hk : Hp) (ds : List Dat) (d : Dat), Le Hk H0 ∧ RpL C Hk ds [v] ∧ F ds = some d ∧ ∀ Hk' H', Nx Hk H0 Hk' H' → Rp C Hk' d (.ref x) → Q .non H'
structure NewOk (P : Program) (w : World) (K : PySem.W.Frag) (mg : Str → Option Value) (base : Heap) (C : Addr) (k : Nat) (x : Str) (F : List Dat → Option Dat) : Prop where
  ex : ∃ (f : Addr) (fd : FuncData) (ps : List Str), Mk K C f ∧ FnOk P w K mg base CX0 k f fd ps (SpInit C F) ∧ mg x = some (.ref C) ∧ Binds K fd ps []
theorem pe_new1 (D : NewOk X.prog X.w X.K X.mg X.base C k x F) (hr : Room (k + 1) X.A) (ha : PA X [e] ga) (hg : Gl X x) (hdb : (x == ("__debug__" : Str)) = false := by decide)
    (he : starEach [e] X.env = [(false, eval e X.env)] := by rfl) : PE X (.Call (.Name x p) [e] [] pos) (tDef C 1 F ga) := by
  obtain ⟨f, fd, ps, M, Fk, hm, hb⟩ := D.ex
  refine ⟨fun pins s σ H Q I h => ?_⟩
  refine wpAny_Call_Name_kw (ld_glob I hg hm ?_ hdb)
  refine PySem.W.callWith_K (h₀ := X.base) I.ok.mod.kin M.kp (thn (ha.run pos pins s σ H _ I h) fun us s1 ⟨vs, H1, I1, r, q⟩ => ⟨I1.kIn, ?_⟩) he rfl
  refine run_make (E := E0) (dvs := []) (ds := []) M Fk hr hb .nil pass0 I1 r ?_
  obtain ⟨hn, Hk, ds, d, hl, rr, e, q⟩ := q
  intro y dx hy hdx ne
  obtain ⟨v, rfl⟩ : ∃ v, vs = [v] := by
    cases vs with
    | nil => cases hn
    | cons v t =>
      cases t with
      | nil => exact ⟨v, rfl⟩
      | cons _ _ => cases hn
  exact ⟨y, dx, v, H1, rfl, hy, hdx, ne, rfl, Hk, ds, d, hl, rr, e, fun Hk' H' nx rp => ⟨rfl, q _ Hk' H' nx rp⟩⟩
theorem se_new (D : NewOk X.prog X.w X.K X.mg X.base C k x F) (hr : Room (k + 1) X.A) (ha : SE X C e ue f) (hg : Gl X x := by rfl) (hdb : (x == ("__debug__" : Str)) = false := by decide)
    (he : starEach [e] X.env = [(false, eval e X.env)] := by rfl) : SE X C (.Call (.Name x p) [e] [] pos) (tDef C 1 F (tCons ue tNil)) (fC F (fCons f fNil)) :=
  ⟨pe_new1 D hr (sa_cons ha sa_nil he).p hg hdb he, ok_def (sa_cons ha sa_nil he).o⟩
/-! ### a property -/
structure PropOk (P : Program) (w : World) (K : PySem.W.Frag) (mg : Str → Option Value) (base : Heap) (C : Addr) (k : Nat) (x : Str) (F : List Dat → Option Dat) : Prop where
  ex : ∃ (q g : Addr) (fd : FuncData) (ps : List Str), Cls K C ∧ PropOf K C x q g ∧ FnOk P w K mg base CX0 k g fd ps (SpF C 1 F) ∧ Binds K fd ps []
def tPropD (C : Addr) (F : List Dat → Option Dat) (t : TE) : TE := fun σ H Q => t σ H fun v H1 => (∃ a dx fs, v = .ref a ∧ H1 a = some (.ins C dx fs)) ∧ SpF C 1 F [v] H1 Q E0
theorem pe_propD (D : PropOk X.prog X.w X.K X.mg X.base C k x F) (hr : Room (k + 1) X.A) (ha : PE X e ue) (hab : attributeBase e x X.env (eval e X.env) = eval e X.env := by rfl) : PE X (.Attribute e x pos) (tPropD C F ue) := by
  obtain ⟨q, g, fd, ps, c, hp, Fk, hb⟩ := D.ex
  refine ⟨fun pins s σ H Q I h => ?_⟩
  refine attr_of hab (thn (ha.run pins s σ H _ I h) fun u s1 ⟨y, H1, I1, rx, ⟨a, dx, fs, ex, ea⟩, q⟩ => ?_)
  subst ex
  obtain rfl : u = Value.ref a := rx
  exact getprop_ok (E := E0) (dvs := []) I1 ea c hp Fk hr hb .nil pass0 q
theorem FormAt.ins {H : Hp} {q : Addr} {a b c : Int} (h : FormAt C H q a b c) : ∃ dx fs, H q = some (.ins C dx fs) := by
  obtain ⟨dx, t, _, _, _, _, _, _, _, w, h1, _⟩ := h
  exact ⟨dx, _, h1⟩
def fProp (F : List Dat → Option Dat) (f : En → Option Dat) : En → Option Dat := fun ρ => (f ρ).bind fun d => match d with
  | .frm a b c => F [.frm a b c]
  | _ => none
theorem se_prop (D : PropOk X.prog X.w X.K X.mg X.base C k x F) (hr : Room (k + 1) X.A) (ha : SE X C e ue f) (hab : attributeBase e x X.env (eval e X.env) = eval e X.env := by rfl) : SE X C (.Attribute e x pos) (tPropD C F ue) (fProp F f) := by
  refine ⟨pe_propD D hr ha.p hab, fun Hk H σ ρ d r e Q q => ?_⟩
  unfold fProp at e
  obtain ⟨y, e1, e⟩ := Option.bind_eq_some_iff.mp e
  cases y <;> simp only [reduceCtorEq] at e
  refine ha.o Hk H σ ρ _ r e1 _ fun v Hk1 H1 n1 r1 => ?_
  obtain ⟨z, rfl, h1⟩ := r1.frm
  obtain ⟨dx, fs, h2⟩ := h1.ins
  exact ⟨⟨z, dx, fs, rfl, n1.kh _ _ h2⟩, rfl, Hk1, _, d, n1.kh, rpl_cons r1 rpl_nil, e, fun v Hk2 H2 n2 r2 => q v Hk2 H2 (n1.trans n2) r2⟩
/-! ### a method of one argument -/
structure MethOk (P : Program) (w : World) (K : PySem.W.Frag) (mg : Str → Option Value) (base : Heap) (C : Addr) (k : Nat) (x : Str) (F : List Dat → Option Dat) : Prop where
  ex : ∃ (g : Addr) (fd : FuncData) (ps : List Str), Cls K C ∧ Meth K C x g ∧ FnOk P w K mg base CX0 k g fd ps (SpF C 2 F) ∧ Binds K fd ps []
def tMethD (C : Addr) (F : List Dat → Option Dat) (x : Str) (t u : TE) : TE := fun σ H Q => t σ H fun v H1 => (∃ a dx fs, v = .ref a ∧ H1 a = some (.ins C dx fs) ∧ fs.lookup x = none) ∧ u σ H1 fun z H2 => SpF C 2 F [v, z] H2 Q E0
theorem pe_methD {pl : Sem Bool} (D : MethOk X.prog X.w X.K X.mg X.base C k x F) (hr : Room k X.A) (ho : PE X o ua) (ha : PE X e ue) (hst : starEach [e] X.env = [(false, eval e X.env)] := by rfl)
    (ht : eval (.Call (.Attribute o x apos) [e] [] pos) X.env = (do
      let ov ← eval o X.env
      standAt apos.atName
      let (f, first) ← holding [ov] (getMethod ov x pl)
      callWith pos f first (backTo pos (starEach [e] X.env)) (backToKw pos (keywordEach [] X.env))) := by rfl) : PE X (.Call (.Attribute o x apos) [e] [] pos) (tMethD C F x ua ue) := by
  obtain ⟨g, fd, ps, c, hm, Fk, hb⟩ := D.ex
  refine ⟨fun pins s σ H Q I h => ?_⟩
  refine PySem.W.methodCall_KW (pl := pl) (thn (ho.run pins s σ H _ I h) fun u s1 ⟨v, H1, I1, rx, ⟨a, dx, fs, ex, ea, l⟩, q⟩ => ?_) ht
  subst ex
  obtain rfl : u = Value.ref a := rx
  refine getmeth_ok I1 ea c hm l ?_
  refine PySem.W.callWith_K (first := [.ref a]) (h₀ := X.base) I.ok.mod.kin hm.kp (thn ((pa_cons ha pa_nil hst).run pos pins s1 σ H1 (fun vs H2 => SpF C 2 F (.ref a :: vs) H2 Q E0) I1 q) fun us s2 ⟨vs, H2, I2, r, q2⟩ => ⟨I2.kIn, ?_⟩) hst rfl
  exact run_fn (E := E0) (dvs := []) (us := .ref a :: us) (vs := .ref a :: vs) Fk hr hb .nil pass0 I2 (.cons rfl r) (by rw [List.append_nil]; exact q2)
def fMeth (F : List Dat → Option Dat) (f g : En → Option Dat) : En → Option Dat := fun ρ => (f ρ).bind fun d => (g ρ).bind fun z => match d with
  | .frm a b c => F [.frm a b c, z]
  | _ => none
theorem se_meth {pl : Sem Bool} (D : MethOk X.prog X.w X.K X.mg X.base C k x F) (hr : Room k X.A) (ho : SE X C o ua fa) (ha : SE X C e ue f) (h1 : ¬ x = "held" := by decide +kernel) (h2 : ¬ x = "words" := by decide +kernel) (hst : starEach [e] X.env = [(false, eval e X.env)] := by rfl)
    (ht : eval (.Call (.Attribute o x apos) [e] [] pos) X.env = (do
      let ov ← eval o X.env
      standAt apos.atName
      let (f, first) ← holding [ov] (getMethod ov x pl)
      callWith pos f first (backTo pos (starEach [e] X.env)) (backToKw pos (keywordEach [] X.env))) := by rfl) : SE X C (.Call (.Attribute o x apos) [e] [] pos) (tMethD C F x ua ue) (fMeth F fa f) := by
  refine ⟨pe_methD D hr ho.p ha.p hst ht, fun Hk H σ ρ d r e Q q => ?_⟩
  unfold fMeth at e
  obtain ⟨y, e1, e⟩ := Option.bind_eq_some_iff.mp e
  obtain ⟨z, e2, e⟩ := Option.bind_eq_some_iff.mp e
  cases y <;> simp only [reduceCtorEq] at e
  refine ho.o Hk H σ ρ _ r e1 _ fun v Hk1 H1 n1 r1 => ?_
  obtain ⟨y, rfl, k1⟩ := r1.frm
  obtain ⟨dx, t, _, _, _, _, _, _, _, w, k2, _⟩ := k1
  refine ⟨⟨y, dx, _, rfl, n1.kh _ _ k2, ?_⟩, ?_⟩
  · rw [List.lookup_cons, show (x == ("held" : Str)) = false from beq_eq_false_iff_ne.mpr h1, List.lookup_cons, show (x == ("words" : Str)) = false from beq_eq_false_iff_ne.mpr h2]
    rfl
  · refine ha.o Hk1 H1 σ ρ z (r.nx n1) e2 _ fun v2 Hk2 H2 n2 r2 => ?_
    exact ⟨rfl, Hk2, _, d, n2.kh, rpl_cons (r1.mono n2.kk) (rpl_cons r2 rpl_nil), e, fun v Hk3 H3 n3 r3 => q v Hk3 H3 ((n1.trans n2).trans n3) r3⟩
end

/-! ### what is walked -/
/-- J goes through ds, whatever is added to Hb -/
structure Wk (C : Addr) (J : It) (Hk Hb : Hp) (ds : List Dat) : Prop where
  go : ∀ i H, i < ds.length → Le Hb H → J.go i H
  stop : ∀ H, Le Hb H → J.stop ds.length H
  yld : ∀ i H x H', i < ds.length → Le Hb H → J.yld i H x H' → ∀ Hk1, Le Hk Hk1 → Le Hk1 H → ∃ d Hk2, ds[i]? = some d ∧ Nx Hk1 H Hk2 H' ∧ Rp C Hk2 d x
theorem Wk.mono {C : Addr} {J : It} {Hk Hb Hb' : Hp} {ds : List Dat} (w : Wk C J Hk Hb ds) (h : Le Hb Hb') : Wk C J Hk Hb' ds :=
  ⟨fun i H hi l => w.go i H hi (h.trans l), fun H l => w.stop H (h.trans l), fun i H x H' hi l => w.yld i H x H' hi (h.trans l)⟩
def OkI (C : Addr) (t : TI) (f : En → Option (List Dat)) : Prop := ∀ (Hk H : Hp) (σ : L2.St) (ρ : En) (ds : List Dat), Rel C Hk H σ ρ → f ρ = some ds → ∀ R : It → Hp → Prop, (∀ J Hk' H', Nx Hk H Hk' H' → Wk C J Hk' Hk' ds → R J H') → t σ H R
/-- for a comprehension: what is owned stands too -/
def OkIw (C : Addr) (t : TI) (f : En → Option (List Dat)) : Prop := ∀ (Hk H : Hp) (σ : L2.St) (ρ : En) (ds : List Dat), Rel C Hk H σ ρ → f ρ = some ds → ∀ R : It → Hp → Prop, (∀ J Hk' H', Nx Hk H Hk' H' → Wk C J Hk' H' ds → R J H') → t σ H R
structure SI (X : Cx) (C : Addr) (tg iter : Expr) (t : TI) (f : En → Option (List Dat)) : Prop where
  p : PI X tg iter t
  o : OkI C t f
structure SIw (X : Cx) (C : Addr) (tg iter : Expr) (t : TI) (f : En → Option (List Dat)) : Prop where
  p : PI X tg iter t
  o : OkIw C t f
def tOrI (t u : TI) : TI := fun σ H R => t σ H R ∨ u σ H R
def irng (lo hi : Int) : List Dat := (List.range (hi - lo).toNat).map fun i => Dat.int (lo + (i : Nat))
def fRng1 (a : En → Option (List Dat)) : En → Option (List Dat) := fun ρ => (a ρ).bind fun ds => match ds with
  | [.int n] => if -1000000 ≤ n ∧ n ≤ 1000000 then some (irng 0 n) else none
  | _ => none
def fRng2 (a : En → Option (List Dat)) : En → Option (List Dat) := fun ρ => (a ρ).bind fun ds => match ds with
  | [.int m, .int n] => if -1000000 ≤ m ∧ m ≤ 1000000 ∧ -1000000 ≤ n ∧ n ≤ 1000000 then some (irng m n) else none
  | _ => none
section
variable {C : Addr} {X : Cx} {tg iter e a b : Expr} {es : List Expr} {pos p : Pos} {f fa fb : En → Option Dat} {la lb : En → Option (List Dat)} {ua ub ue : TE} {ga gb : TA} {t u : TI}
theorem PI.or (h : PI X tg iter t) (h' : PI X tg iter u) : PI X tg iter (tOrI t u) := ⟨fun pins s σ H R I w => by
  rcases w with w | w
  · exact h.run pins s σ H R I w
  · exact h'.run pins s σ H R I w⟩
theorem SI.w (h : SI X C tg iter t la) : SIw X C tg iter t la := ⟨h.p, fun Hk H σ ρ ds r e R q => h.o Hk H σ ρ ds r e R fun J Hk1 H1 n1 w => q J Hk1 H1 n1 (w.mono n1.kh)⟩
theorem wk_list {K : PySem.W.Frag} {l : Addr} {xs : List V} {ds : List Dat} {Hk Hb : Hp} (h : Hb l = some (.lst xs)) (r : RpL C Hk ds xs) : Wk C (Itl K l) Hk Hb ds where
  go := fun i H hi l' => ⟨xs, xs[i]'(by rw [r.length]; exact hi), SqL.of (l' _ _ h), by simp [r.length, hi]⟩
  stop := fun H l' => ⟨xs, SqL.of (l' _ _ h), by rw [r.length]; exact Nat.le_refl _⟩
  yld := fun i H x H' hi l' y Hk1 h1 h2 => by
    obtain ⟨rfl, y⟩ := y
    obtain ⟨d, h3, h4⟩ := r.get' (y xs (SqL.of (l' _ _ h)))
    exact ⟨d, Hk1, h3, Nx.refl h2, h4.mono h1⟩
theorem wk_tup {K : PySem.W.Frag} {l : Addr} {xs : List V} {ds : List Dat} {Hk Hb : Hp} (h : Hb l = some (.tup xs)) (r : RpL C Hk ds xs) : Wk C (Itt K l) Hk Hb ds where
  go := fun i H hi l' => ⟨xs, xs[i]'(by rw [r.length]; exact hi), SqT.of (l' _ _ h), by simp [r.length, hi]⟩
  stop := fun H l' => ⟨xs, SqT.of (l' _ _ h), by rw [r.length]; exact Nat.le_refl _⟩
  yld := fun i H x H' hi l' y Hk1 h1 h2 => by
    obtain ⟨rfl, y⟩ := y
    obtain ⟨d, h3, h4⟩ := r.get' (y xs (SqT.of (l' _ _ h)))
    exact ⟨d, Hk1, h3, Nx.refl h2, h4.mono h1⟩
theorem wk_rng {lo : Int} {n : Nat} {Hk Hb : Hp} : Wk C (Itr lo n) Hk Hb ((List.range n).map fun i => Dat.int (lo + (i : Nat))) where
  go := fun i H hi _ => by
    show i < n
    simpa using hi
  stop := fun H _ => by
    show n ≤ _
    simp
  yld := fun i H x H' hi _ y Hk1 _ h2 => by
    obtain ⟨rfl, rfl⟩ := y
    have hn : i < n := by simpa using hi
    exact ⟨.int (lo + (i : Nat)), Hk1, by simp [hn], Nx.refl h2, rp_int⟩
/-- a frozen list or tuple -/
theorem si_seq (ha : SE X C iter ue f) : SI X C tg iter (tOrI (iList X.K ue) (iTup X.K ue)) (fSq f) := by
  refine ⟨PI.or (pi_list ha.p) (pi_tup ha.p), fun Hk H σ ρ ds r e R q => ?_⟩
  unfold fSq at e
  obtain ⟨y, e1, e⟩ := Option.bind_eq_some_iff.mp e
  cases y <;> simp only [seqOf, reduceCtorEq] at e <;> cases e
  · refine .inr (ha.o Hk H σ ρ _ r e1 _ fun v Hk1 H1 n1 r1 => ?_)
    obtain ⟨l, xs, rfl, h1, h2⟩ := r1.tup
    exact ⟨l, rfl, ⟨xs, SqT.of (n1.kh _ _ h1)⟩, q _ Hk1 H1 n1 (wk_tup h1 h2)⟩
  · refine .inl (ha.o Hk H σ ρ _ r e1 _ fun v Hk1 H1 n1 r1 => ?_)
    obtain ⟨l, xs, rfl, h1, h2⟩ := r1.lst
    exact ⟨l, rfl, ⟨xs, SqL.of (n1.kh _ _ h1)⟩, q _ Hk1 H1 n1 (wk_list h1 h2)⟩
/-- an owned list, within a comprehension -/
theorem siw_ow (ha : SW X C iter ue la) : SIw X C tg iter (iList X.K ue) la := by
  refine ⟨pi_list ha.p, fun Hk H σ ρ ds r e R q => ?_⟩
  refine ha.o Hk H σ ρ ds r e _ fun l xs Hk1 H1 n1 h1 r1 => ?_
  exact ⟨l, rfl, ⟨xs, SqL.of h1⟩, q _ Hk1 H1 n1 (wk_list h1 r1)⟩
theorem si_rng1 (hm : X.mg "range" = none) (ha : SA X C [a] ga la) (hg : Gl X "range" := by rfl) (hs : starEach [a] X.env = [(false, eval a X.env)] := by rfl) : SI X C tg (.Call (.Name "range" p) [a] [] pos) (iRng1 ga) (fRng1 la) := by
  refine ⟨pi_range1 hg hm ha.p hs, fun Hk H σ ρ ds r e R q => ?_⟩
  unfold fRng1 at e
  obtain ⟨y, e1, e⟩ := Option.bind_eq_some_iff.mp e
  split at e
  · rename_i n
    split at e
    · rename_i hn
      cases e
      refine ha.o.2 Hk H σ ρ _ r e1 _ fun vs Hk1 H1 n1 r1 => ?_
      obtain ⟨v, t, rfl, k1, k2⟩ := r1.cons
      rw [k1.int, k2.nil]
      refine ⟨n, rfl, by omega, by omega, q _ Hk1 H1 n1 ?_⟩
      have := @wk_rng C 0 n.toNat Hk1 Hk1
      unfold irng
      rw [Int.sub_zero]
      exact this
    · cases e
  · cases e
theorem si_rng2 (hm : X.mg "range" = none) (ha : SA X C [a, b] ga la) (hg : Gl X "range" := by rfl) (hs : starEach [a, b] X.env = [(false, eval a X.env), (false, eval b X.env)] := by rfl) (hs2 : starEach [b] X.env = [(false, eval b X.env)] := by rfl) :
    SI X C tg (.Call (.Name "range" p) [a, b] [] pos) (iRng2 ga) (fRng2 la) := by
  refine ⟨pi_range2 hg hm ha.p hs hs2, fun Hk H σ ρ ds r e R q => ?_⟩
  unfold fRng2 at e
  obtain ⟨y, e1, e⟩ := Option.bind_eq_some_iff.mp e
  split at e
  · rename_i m n
    split at e
    · rename_i hn
      cases e
      refine ha.o.2 Hk H σ ρ _ r e1 _ fun vs Hk1 H1 n1 r1 => ?_
      obtain ⟨v, t, rfl, k1, k2⟩ := r1.cons
      obtain ⟨v', t, rfl, k3, k4⟩ := k2.cons
      rw [k1.int, k3.int, k4.nil]
      exact ⟨m, n, rfl, ⟨by omega, by omega, by omega, by omega⟩, q _ Hk1 H1 n1 wk_rng⟩
    · cases e
  · cases e
/-! ### zip of two lists, of two tuples -/
def zipD : List Dat → List Dat → List Dat
  | x :: xs, y :: ys => .tup [x, y] :: zipD xs ys
  | _, _ => []
theorem zipD_length : ∀ xs ys : List Dat, (zipD xs ys).length = min xs.length ys.length
  | [], ys => by simp [zipD]
  | x :: xs, [] => by simp [zipD]
  | x :: xs, y :: ys => by
    show (zipD xs ys).length + 1 = _
    rw [zipD_length xs ys, List.length_cons, List.length_cons]; omega
theorem zipD_get : ∀ {xs ys : List Dat} {i : Nat} {x y : Dat}, xs[i]? = some x → ys[i]? = some y → (zipD xs ys)[i]? = some (.tup [x, y])
  | [], _, _, _, _, h, _ => by simp at h
  | _ :: _, [], _, _, _, _, h => by simp at h
  | x :: xs, y :: ys, 0, x', y', h, h' => by
    simp at h h'; subst h h'; rfl
  | x :: xs, y :: ys, i + 1, x', y', h, h' => by
    have := zipD_get (xs := xs) (ys := ys) (i := i) (x := x') (y := y') (by simpa using h) (by simpa using h')
    simpa [zipD] using this
def dZip : List Dat → Option (List Dat)
  | [.lst xs, .lst ys] => some (zipD xs ys)
  | [.tup xs, .tup ys] => some (zipD xs ys)
  | _ => none
theorem wk_zip {J : It} {xs ys : List V} {ds es : List Dat} {Hk : Hp} (r1 : RpL C Hk ds xs) (r2 : RpL C Hk es ys)
    (W : Walk J (min xs.length ys.length) (fun H => Le Hk H) (YPair (fun i => xs[i]?) (fun i => ys[i]?))) : Wk C J Hk Hk (zipD ds es) where
  go := fun i H hi l => W.goes i H (by rw [r1.length, r2.length, ← zipD_length]; exact hi) l
  stop := fun H l => by
    have := W.stops H l
    rw [r1.length, r2.length, ← zipD_length] at this
    exact this
  yld := fun i H x H' hi l y Hk1 h1 h2 => by
    obtain ⟨T, a, b, rfl, hT, rfl, ha, hb⟩ := W.yields i H x H' (by rw [r1.length, r2.length, ← zipD_length]; exact hi) l y
    obtain ⟨d1, e1, p1⟩ := r1.get' ha
    obtain ⟨d2, e2, p2⟩ := r2.get' hb
    have n2 : Nx Hk1 H _ _ := Nx.new (o := .tup [a, b]) h2 hT
    exact ⟨_, _, zipD_get e1 e2, n2, rp_tup upd_same (rpl_cons (p1.mono (h1.trans n2.kk)) (rpl_cons (p2.mono (h1.trans n2.kk)) rpl_nil))⟩
theorem walk_zipT {K : PySem.W.Frag} {l m : Addr} {xs ys : List V} {n : Nat} (hn : n = min xs.length ys.length) : Walk (ItzT K l m) n (fun H => SqT K H l xs ∧ SqT K H m ys) (YPair (fun i => xs[i]?) (fun i => ys[i]?)) := by
  subst hn
  refine ⟨fun i _ hi q => ?_, fun _ q => ⟨xs, ys, q.1, q.2, by omega⟩, fun i H v H' _ q y => ?_⟩
  · have h1 : i < xs.length := by omega
    have h2 : i < ys.length := by omega
    exact ⟨xs, ys, xs[i], ys[i], q.1, q.2, by simp [h1], by simp [h2]⟩
  · obtain ⟨T, x, z, h1, h2, h3, h4, h5⟩ := y
    exact ⟨T, x, z, h1, h2, h3, h4 xs q.1, h5 ys q.2⟩
theorem si_zip {elts : List Expr} {kk : Nat} {tpos : Pos} (hm : X.mg "zip" = none) (ha : SA X C [a, b] ga la) (hg : Gl X "zip" := by rfl) (hs : starEach [a, b] X.env = (false, eval a X.env) :: starEach [b] X.env := by rfl) (hpl : (backTo pos (starEach [b] X.env)).any (·.1) = false := by rfl) :
    SI X C (.Tuple elts kk tpos) (.Call (.Name "zip" p) [a, b] [] pos) (iZipA X.K ga) (fun ρ => (la ρ).bind dZip) := by
  refine ⟨pi_zipA hg hm ha.p hs hpl, fun Hk H σ ρ ds r e R q => ?_⟩
  obtain ⟨y, e1, e⟩ := Option.bind_eq_some_iff.mp e
  unfold dZip at e
  split at e
  · rename_i xs ys
    cases e
    refine ha.o.2 Hk H σ ρ _ r e1 _ fun vs Hk1 H1 n1 r1 => ?_
    obtain ⟨v, t, rfl, k1, k2⟩ := r1.cons
    obtain ⟨v', t, rfl, k3, k4⟩ := k2.cons
    obtain ⟨l, us, rfl, h1, h2⟩ := k1.lst
    obtain ⟨m, ws, rfl, h3, h4⟩ := k3.lst
    rw [k4.nil]
    refine ⟨l, m, us, ws, rfl, .inl ⟨SqL.of (n1.kh _ _ h1), SqL.of (n1.kh _ _ h3), q _ Hk1 H1 n1 (wk_zip h2 h4 ?_)⟩⟩
    exact (walk_zip rfl).mono (fun H l' => ⟨SqL.of (l' _ _ h1), SqL.of (l' _ _ h3)⟩) fun _ _ _ _ _ _ y => y
  · rename_i xs ys
    cases e
    refine ha.o.2 Hk H σ ρ _ r e1 _ fun vs Hk1 H1 n1 r1 => ?_
    obtain ⟨v, t, rfl, k1, k2⟩ := r1.cons
    obtain ⟨v', t, rfl, k3, k4⟩ := k2.cons
    obtain ⟨l, us, rfl, h1, h2⟩ := k1.tup
    obtain ⟨m, ws, rfl, h3, h4⟩ := k3.tup
    rw [k4.nil]
    refine ⟨l, m, us, ws, rfl, .inr ⟨SqT.of (n1.kh _ _ h1), SqT.of (n1.kh _ _ h3), q _ Hk1 H1 n1 (wk_zip h2 h4 ?_)⟩⟩
    exact (walk_zipT rfl).mono (fun H l' => ⟨SqT.of (l' _ _ h1), SqT.of (l' _ _ h3)⟩) fun _ _ _ _ _ _ y => y
  · cases e
end

/-! ### targets that are names -/
/-- only the slots in vs change, the heap does not -/
def OkG (C : Addr) (vs : List Nat) (g : TG) (h : Dat → En → Option En) : Prop := ∀ (Hk H : Hp) (σ : L2.St) (ρ ρ' : En) (d : Dat) (v : V), Rel C Hk H σ ρ → Rp C Hk d v → h d ρ = some ρ' → ∀ Q : L2.St → Hp → Prop,
  (∀ σ', Rel C Hk H σ' ρ' → σ'.length = σ.length → (∀ j, j ∉ vs → σ'[j]? = σ[j]?) → (∀ l, Own σ' ρ' l → Own σ ρ l) → Q σ' H) → g v σ H Q
structure SG (X : Cx) (C : Addr) (tg : Expr) (vs : List Nat) (g : TG) (h : Dat → En → Option En) : Prop where
  p : PG X tg g
  o : OkG C vs g h
def OkGs (C : Addr) (vs : List Nat) (n : Nat) (g : TGs) (h : List Dat → En → Option En) : Prop := (∀ ds ρ ρ', h ds ρ = some ρ' → ds.length = n) ∧ ∀ (Hk H : Hp) (σ : L2.St) (ρ ρ' : En) (ds : List Dat) (xs : List V), Rel C Hk H σ ρ → RpL C Hk ds xs → h ds ρ = some ρ' → ∀ Q : L2.St → Hp → Prop,
  (∀ σ', Rel C Hk H σ' ρ' → σ'.length = σ.length → (∀ j, j ∉ vs → σ'[j]? = σ[j]?) → (∀ l, Own σ' ρ' l → Own σ ρ l) → Q σ' H) → g xs σ H Q
structure SGs (X : Cx) (C : Addr) (tgs : List Expr) (vs : List Nat) (g : TGs) (h : List Dat → En → Option En) : Prop where
  p : PGs X tgs g
  o : OkGs C vs tgs.length g h
def gN (i : Nat) : Dat → En → Option En := fun d ρ => some (ρ.set i (.fz d))
def gsN : List Dat → En → Option En
  | [], ρ => some ρ
  | _, _ => none
def gsC (h : Dat → En → Option En) (k : List Dat → En → Option En) : List Dat → En → Option En
  | d :: ds, ρ => (h d ρ).bind fun ρ1 => k ds ρ1
  | _, _ => none
def gT (k : List Dat → En → Option En) : Dat → En → Option En := fun d ρ => (tupOf d).bind fun ds => k ds ρ
section
variable {C : Addr} {X : Cx} {tg e : Expr} {es : List Expr} {pos : Pos} {g : TG} {gs : TGs} {h : Dat → En → Option En} {k : List Dat → En → Option En} {vs ws : List Nat}
theorem sg_name (i : Nat) {x : Str} (hN : X.N.Nodup) (hi : X.N[i]? = some x := by rfl) (hx : Loc X.env.scope x := by first | exact .inl rfl | exact .inr rfl) (hf : X.fn x = true ∨ X.env.scope.names.lookup x = some .local := by first | exact .inl rfl | exact .inr rfl) :
    SG X C (.Name x pos) [i] (gName i) (gN i) := by
  refine ⟨pg_name hN hi hx hf, fun Hk H σ ρ ρ' d v r p e Q q => ?_⟩
  cases e
  exact q _ (r.setF p) (by simp) (fun j hj => List.getElem?_set_ne (fun z => hj (by simp [z]))) (fun l => own_setF)
theorem sgs_nil : SGs X C [] [] gNil gsN := by
  refine ⟨pgs_nil, fun ds ρ ρ' e => ?_, fun Hk H σ ρ ρ' ds xs r p e Q q => ?_⟩
  · cases ds with
    | nil => rfl
    | cons _ _ => cases e
  · cases ds with
    | nil => cases e; exact ⟨p.nil, q σ r rfl (fun _ _ => rfl) fun _ o => o⟩
    | cons _ _ => cases e
theorem sgs_cons (h1 : SG X C e vs g h) (h2 : SGs X C es ws gs k) (hs : (assignEach (e :: es) X.env).map (·.2) = assign e X.env :: (assignEach es X.env).map (·.2) := by rfl) : SGs X C (e :: es) (vs ++ ws) (gCons g gs) (gsC h k) := by
  refine ⟨pgs_cons h1.p h2.p hs, fun ds ρ ρ' e => ?_, fun Hk H σ ρ ρ' ds xs r p e Q q => ?_⟩
  · cases ds with
    | nil => cases e
    | cons d ds =>
      obtain ⟨ρ1, e1, e2⟩ := Option.bind_eq_some_iff.mp (show (h d ρ).bind (fun ρ1 => k ds ρ1) = some ρ' from e)
      rw [List.length_cons, h2.o.1 ds ρ1 ρ' e2, List.length_cons]
  · cases ds with
    | nil => cases e
    | cons d ds =>
      obtain ⟨ρ1, e1, e2⟩ := Option.bind_eq_some_iff.mp (show (h d ρ).bind (fun ρ1 => k ds ρ1) = some ρ' from e)
      obtain ⟨x, t, rfl, p1, p2⟩ := p.cons
      refine ⟨x, t, rfl, h1.o Hk H σ ρ ρ1 d x r p1 e1 _ fun σ1 r1 l1 k1 o1 => ?_⟩
      refine h2.o.2 Hk H σ1 ρ1 ρ' ds t r1 p2 e2 _ fun σ2 r2 l2 k2 o2 => ?_
      exact q σ2 r2 (l2.trans l1) (fun j hj => (k2 j fun z => hj (List.mem_append_right _ z)).trans (k1 j fun z => hj (List.mem_append_left _ z))) fun l o => o1 l (o2 l o)
theorem sg_tup {kk : Nat} (hc : X.calm = true) (hh : SGs X C es vs gs k) (hn : (assignEach es X.env).length = es.length := by rfl) (hst : (assignEach es X.env).findIdx? (·.1) = none := by rfl) : SG X C (.Tuple es kk pos) vs (gTup X.K es.length gs) (gT k) := by
  refine ⟨pg_tup hc hh.p hn hst, fun Hk H σ ρ ρ' d v r p e Q q => ?_⟩
  unfold gT at e
  obtain ⟨ds, e1, e⟩ := Option.bind_eq_some_iff.mp e
  cases d <;> simp only [tupOf, reduceCtorEq] at e1
  cases e1
  obtain ⟨a, xs, rfl, h1, h2⟩ := p.tup
  exact ⟨a, xs, rfl, SqT.of (r.kh _ _ h1), by rw [h2.length]; exact hh.o.1 ds ρ ρ' e, hh.o.2 Hk H σ ρ ρ' ds xs r h2 e Q q⟩
end
/-! ### comprehensions -/
def wipeE (ρ : En) : List Nat → En
  | [] => ρ
  | v :: vs => (wipeE ρ vs).set v .no
theorem wipeE_length (ρ : En) : ∀ vs : List Nat, (wipeE ρ vs).length = ρ.length
  | [] => rfl
  | v :: vs => by unfold wipeE; rw [List.length_set, wipeE_length ρ vs]
theorem wipe_out {σ : L2.St} {i : Nat} : ∀ {vs : List Nat}, i ∉ vs → (wipe σ vs)[i]? = σ[i]?
  | [], _ => rfl
  | v :: vs, h => by
    unfold wipe
    rw [List.getElem?_set_ne (fun z => h (by simp [z])), wipe_out fun z => h (List.mem_cons_of_mem _ z)]
theorem wipe_in {σ : L2.St} {i : Nat} : ∀ {vs : List Nat}, i ∈ vs → i < σ.length → (wipe σ vs)[i]? = some none
  | v :: vs, h, hl => by
    unfold wipe
    by_cases z : v = i
    · subst z; exact List.getElem?_set_self (by rw [wipe_length]; exact hl)
    · rw [List.getElem?_set_ne z]
      rcases List.mem_cons.mp h with e | h
      · exact absurd e.symm z
      · exact wipe_in h hl
theorem wipeE_some {ρ : En} {i : Nat} {x : Sl} (hx : x ≠ .no) : ∀ {vs : List Nat}, (wipeE ρ vs)[i]? = some x → ρ[i]? = some x ∧ i ∉ vs
  | [], h => ⟨h, by simp⟩
  | v :: vs, h => by
    unfold wipeE at h
    by_cases hi : v = i
    · subst hi
      by_cases hv : v < (wipeE ρ vs).length
      · rw [List.getElem?_set_self hv] at h; cases h; exact absurd rfl hx
      · rw [List.getElem?_eq_none (by simpa using hv)] at h; cases h
    · rw [List.getElem?_set_ne hi] at h
      obtain ⟨h1, h2⟩ := wipeE_some hx h
      exact ⟨h1, by simp only [List.mem_cons, not_or]; exact ⟨fun e => hi e.symm, h2⟩⟩
/-- states that agree off vs wipe to one -/
theorem wipe_agree {σ σ' : L2.St} {vs : List Nat} (hl : σ'.length = σ.length) (h : ∀ j, j ∉ vs → σ'[j]? = (wipe σ vs)[j]?) : wipe σ' vs = wipe σ vs := by
  apply List.ext_getElem?
  intro i
  by_cases hi : i ∈ vs
  · by_cases hlt : i < σ.length
    · rw [wipe_in hi (by rw [hl]; exact hlt), wipe_in hi hlt]
    · rw [List.getElem?_eq_none (by rw [wipe_length, hl]; omega), List.getElem?_eq_none (by rw [wipe_length]; omega)]
  · rw [wipe_out hi, h i hi]
theorem Rel.wipe {C : Addr} {Hk H : Hp} {σ : L2.St} {ρ : En} (r : Rel C Hk H σ ρ) (vs : List Nat) : Rel C Hk H (wipe σ vs) (wipeE ρ vs) where
  kh := r.kh
  len := by rw [wipe_length, wipeE_length, r.len]
  fz := fun i d h => by
    obtain ⟨h1, h2⟩ := wipeE_some (x := .fz d) (by intro z; cases z) h
    rw [wipe_out h2]
    exact r.fz i d h1
  ow := fun i ds h => by
    obtain ⟨h1, h2⟩ := wipeE_some (x := .ow ds) (by intro z; cases z) h
    rw [wipe_out h2]
    exact r.ow i ds h1
  ds := fun i j l a b h h' h2 h3 => by
    obtain ⟨h1, k1⟩ := wipeE_some (x := .ow a) (by intro z; cases z) h
    obtain ⟨h1', k2⟩ := wipeE_some (x := .ow b) (by intro z; cases z) h'
    rw [wipe_out k1] at h2
    rw [wipe_out k2] at h3
    exact r.ds i j l a b h1 h1' h2 h3
def lcGo (gt : Dat → En → Option En) (tt : En → Option Bool) (te : En → Option Dat) (ρ : En) : List Dat → Option (List Dat)
  | [] => some []
  | d :: ds => (gt d ρ).bind fun ρ1 => (tt ρ1).bind fun b => match b with
    | true => (te ρ1).bind fun y => (lcGo gt tt te ρ ds).bind fun ys => some (y :: ys)
    | false => lcGo gt tt te ρ ds
def fLc (it : En → Option (List Dat)) (gt : Dat → En → Option En) (tt : En → Option Bool) (te : En → Option Dat) (vs : List Nat) : En → Option (List Dat) := fun ρ => (it ρ).bind fun ds =>
  if ds.length ≤ 100000 then lcGo gt tt te (wipeE ρ vs) ds else none
/-- the tests of a clause -/
structure STs (X : Cx) (C : Addr) (ifs : List Expr) (t : TT) (f : En → Option Bool) : Prop where
  p : PTs X ifs t
  o : OkT C t f
def fYes : En → Option Bool := fun _ => some true
section
variable {C : Addr} {X : Cx} {c : Expr} {vc : TT} {ft : En → Option Bool}
theorem sts_nil : STs X C [] tYes fYes := ⟨pts_nil, fun Hk H σ ρ b r e Q q => by cases e; exact q Hk H (Nx.refl r.kh)⟩
theorem sts_one (h : ST X C c vc ft) : STs X C [c] vc ft := ⟨pts_one h.p, h.o⟩
end
theorem lc_ok {C : Addr} {J : It} {g : TG} {tt : TT} {te : TE} {gt : Dat → En → Option En} {ft : En → Option Bool} {fe : En → Option Dat} {vs ws : List Nat} {σ : L2.St} {ρ : En} {Hk H1 : Hp} {D : Addr} {ds out : List Dat} {Qd : Hp → Prop}
    (hws : ∀ j ∈ ws, j ∈ vs) (og : OkG C ws g gt) (ot : OkT C tt ft) (oe : OkE C te fe) (r : Rel C Hk H1 σ ρ) (hD : H1 D = none) (W : Wk C J Hk H1 ds) (hz : ds.length ≤ 100000) (hout : lcGo gt ft fe (wipeE ρ vs) ds = some out)
    (hd : ∀ xs Hk' H', Nx Hk H1 Hk' H' → Hk' D = none → H' D = some (.lst xs) → RpL C Hk' out xs → Qd H') :
    ∃ V : Nat → Nat → Hp → Prop, (∃ m, V 0 m (upd H1 D (.lst []))) ∧ ∀ i m H, V i m H →
      (J.stop i H ∧ Qd H) ∨ (J.go i H ∧ ∃ Nx : Hp → Prop, (∀ H', Nx H' → ∃ m', m' < m ∧ V (i + 1) m' H') ∧ ∀ x H', J.yld i H x H' → g x (wipe σ vs) H' fun σ2 H2 => wipe σ2 vs = wipe σ vs ∧ tt σ2 H2 fun b H3 =>
        if b = true then te σ2 H3 fun y H4 => ∃ acc, H4 D = some (.lst acc) ∧ acc.length < sizeLine ∧ Nx (upd H4 D (.lst (acc ++ [y]))) else Nx H3) := by
  -- the state without D: Hx; the list so far: acc of «done»
  let Inv : Nat → Hp → Prop := fun i H => ∃ (Hk' Hx : Hp) (acc : List V) (pre post : List Dat), Nx Hk H1 Hk' Hx ∧ Hx D = none ∧ H = upd Hx D (.lst acc) ∧ RpL C Hk' pre acc ∧ lcGo gt ft fe (wipeE ρ vs) (ds.drop i) = some post ∧ out = pre ++ post ∧ pre.length ≤ i
  have key : ∃ V : Nat → Nat → Hp → Prop, (∃ m, V 0 m (upd H1 D (.lst []))) ∧ ∀ i m H, V i m H →
      (J.stop i H ∧ Qd H) ∨ (J.go i H ∧ ∃ Nx : Hp → Prop, (∀ H', Nx H' → ∃ m', m' < m ∧ V (i + 1) m' H') ∧ ∀ x H', J.yld i H x H' → g x (wipe σ vs) H' fun σ2 H2 => wipe σ2 vs = wipe σ vs ∧ tt σ2 H2 fun b H3 =>
        if b = true then te σ2 H3 fun y H4 => ∃ acc, H4 D = some (.lst acc) ∧ acc.length < sizeLine ∧ Nx (upd H4 D (.lst (acc ++ [y]))) else Nx H3) := by
    refine ⟨fun i m H => m = ds.length - i ∧ i ≤ ds.length ∧ Inv i H, ⟨ds.length, by simp, Nat.zero_le _, Hk, H1, [], [], out, Nx.refl r.kh, hD, rfl, rpl_nil, hout, rfl, Nat.le_refl _⟩, ?_⟩
    rintro i m H ⟨rfl, hi, Hk', Hx, acc, pre, post, n1, hx, rfl, ra, hgo, ho, hpl⟩
    have hle : Le H1 (upd Hx D (.lst acc)) := n1.hh.trans (Le.new hx)
    have hlk : Le Hk' (upd Hx D (.lst acc)) := n1.kh.trans (Le.new hx)
    have hkD : Hk' D = none := n1.kh.free hx
    by_cases hlt : i < ds.length
    · refine .inr ⟨W.go i _ hlt hle, Inv (i + 1), fun H' p' => ⟨ds.length - (i + 1), by omega, rfl, hlt, p'⟩, fun x H' y => ?_⟩
      obtain ⟨d, Hk2, e1, n2, rd⟩ := W.yld i _ x H' hlt hle y Hk' n1.kk hlk
      have edrop : ds.drop i = d :: ds.drop (i + 1) := by
        rw [List.drop_eq_getElem_cons hlt]
        have : ds[i]? = some ds[i] := List.getElem?_eq_getElem hlt
        rw [this] at e1; cases e1; rfl
      rw [edrop] at hgo
      obtain ⟨ρ1, e2, hgo⟩ := Option.bind_eq_some_iff.mp (show (gt d (wipeE ρ vs)).bind _ = some post from hgo)
      obtain ⟨b, e3, hgo⟩ := Option.bind_eq_some_iff.mp hgo
      -- in the step the list at D stands, not known
      have rel2 : Rel C Hk2 H' (wipe σ vs) (wipeE ρ vs) := by
        have q1 : Rel C Hk' (upd Hx D (.lst acc)) σ ρ := by
          refine (r.nx (Hk' := Hk') (H' := upd Hx D (.lst acc)) ⟨n1.kk, hle, hlk, n1.sp⟩)
        exact (q1.nx n2).wipe vs
      refine og Hk2 H' _ _ ρ1 d x rel2 rd e2 _ fun σ2 r2 l2 k2 o2 => ?_
      refine ⟨wipe_agree (by rw [l2, wipe_length]) fun j hj => k2 j fun z => hj (hws j z), ?_⟩
      refine ot Hk2 H' σ2 ρ1 b r2 e3 _ fun Hk3 H3 n3 => ?_
      have n23 := n2.trans n3
      -- behind the step
      have back : ∀ {Hk4 H4 : Hp}, Nx Hk' (upd Hx D (.lst acc)) Hk4 H4 → ∃ Hy : Hp, Hy D = none ∧ Nx Hk H1 Hk4 Hy ∧ ∀ zs, upd H4 D (.lst zs) = upd Hy D (.lst zs) := fun {Hk4 H4} n4 => by
        have h4 : Hk4 D = none := n4.sp D hkD (by rw [upd_same]; intro z; cases z)
        refine ⟨fun q => if q = D then none else H4 q, if_pos rfl, ⟨n1.kk.trans n4.kk, fun q o e => ?_, fun q o e => ?_, fun l e n => n4.sp l (n1.sp l e n) (fun z => n ?_)⟩, fun zs => ?_⟩
        · have z : q ≠ D := fun z => by subst z; rw [hD] at e; cases e
          show (if q = D then none else H4 q) = some o
          rw [if_neg z]
          exact n4.hh _ _ (hle _ _ e)
        · have z : q ≠ D := fun z => by subst z; rw [h4] at e; cases e
          show (if q = D then none else H4 q) = some o
          rw [if_neg z]
          exact n4.kh _ _ e
        · exact hle.free z
        · funext q
          unfold upd
          by_cases z : q = D
          · rw [if_pos z, if_pos z]
          · rw [if_neg z, if_neg z]
            show H4 q = (if q = D then none else H4 q)
            rw [if_neg z]
      cases b with
      | true =>
        obtain ⟨yv, e4, hgo⟩ := Option.bind_eq_some_iff.mp hgo
        obtain ⟨ys, e5, hgo⟩ := Option.bind_eq_some_iff.mp hgo
        cases hgo
        refine iteT (oe Hk3 H3 σ2 ρ1 yv (r2.nx n3) e4 _ fun v Hk4 H4 n4 r4 => ?_)
        have n234 := n23.trans n4
        obtain ⟨Hy, hy1, hy2, hy3⟩ := back n234
        refine ⟨acc, n234.hh _ _ upd_same, ?_, ?_⟩
        · have e6 : acc.length = pre.length := ra.length
          have : acc.length < 100000 := by omega
          exact sz_lt this
        · refine ⟨Hk4, Hy, acc ++ [v], pre ++ [yv], ys, hy2, hy1, hy3 _, (ra.mono n234.kk).append (rpl_cons r4 rpl_nil), e5, ?_, ?_⟩
          · rw [ho, List.append_assoc]; rfl
          · rw [List.length_append]; simp; exact hpl
      | false =>
        refine iteF ?_
        obtain ⟨Hy, hy1, hy2, hy3⟩ := back n23
        have e7 : H3 = upd H3 D (.lst acc) := by
          funext q
          unfold upd
          by_cases z : q = D
          · subst z; rw [if_pos rfl]; exact n23.hh _ _ upd_same
          · rw [if_neg z]
        exact ⟨Hk3, Hy, acc, pre, post, hy2, hy1, e7.trans (hy3 _), ra.mono n23.kk, hgo, ho, Nat.le_succ_of_le hpl⟩
    · have e : i = ds.length := by omega
      subst e
      rw [List.drop_length] at hgo
      cases hgo
      rw [List.append_nil] at ho
      subst ho
      exact .inl ⟨W.stop _ hle, hd acc Hk' _ ⟨n1.kk, hle, hlk, n1.sp⟩ hkD upd_same ra⟩
  exact key
section
variable {C : Addr} {X : Cx} {elt tg iter : Expr} {ifs : List Expr} {scope : Scope} {own : List (Str × Nat)} {pos : Pos} {wi : TI} {g : TG} {tt : TT} {te : TE} {fi : En → Option (List Dat)} {gt : Dat → En → Option En} {ft : En → Option Bool} {fe : En → Option Dat} {ws : List Nat}
theorem ok_lc (hws : ∀ j ∈ ws, j ∈ own.map (·.2)) (hi : OkIw C wi fi) (og : OkG C ws g gt) (ot : OkT C tt ft) (oe : OkE C te fe) : OkL C (tLc wi g tt te (own.map (·.2))) (fLc fi gt ft fe (own.map (·.2))) := fun Hk H σ ρ out r e Q q => by
  unfold fLc at e
  obtain ⟨ds, e1, e⟩ := Option.bind_eq_some_iff.mp e
  split at e
  · rename_i hz
    refine hi Hk H σ ρ ds r e1 _ fun J Hk1 H1 n1 W => ?_
    intro D hD
    exact lc_ok hws og ot oe (r.nx n1) hD W hz e fun xs Hk2 H2 n2 h1 h2 h3 => q D xs Hk2 H2 (n1.trans n2) (n1.hh.free hD) h1 h2 h3
  · cases e
theorem sl_lc (hc : X.calm = true) (hN : X.N.Nodup) (ok : BlkOk X.N X.env.scope scope own) (hws : ∀ j ∈ ws, j ∈ own.map (·.2)) (hi : SIw X C tg iter wi fi)
    (hg : ∀ (s : Shared) (H : Hp) (C' : Addr) (cl : List (Str × Addr)) (fp : List Addr), SG (X.blk s H scope (compEnvC scope cl C' X.env) fp) C tg ws g gt) (ht : ∀ (s : Shared) (H : Hp) (C' : Addr) (cl : List (Str × Addr)) (fp : List Addr), STs (X.blk s H scope (compEnvC scope cl C' X.env) fp) C ifs tt ft)
    (he : ∀ (s : Shared) (H : Hp) (C' : Addr) (cl : List (Str × Addr)) (fp : List Addr), SE (X.blk s H scope (compEnvC scope cl C' X.env) fp) C elt te fe) (hs : ∀ x, foldedSetIterable iter X.env x = pure x := by intro _; rfl) :
    SL X C (.ListComp elt [⟨tg, iter, ifs, 0⟩] scope pos) (tLc wi g tt te (own.map (·.2))) (fLc fi gt ft fe (own.map (·.2))) :=
  ⟨pe_lc hc hN hi.p ok (fun s H C' cl fp => (hg s H C' cl fp).p) (fun s H C' cl fp => (ht s H C' cl fp).p) (fun s H C' cl fp => (he s H C' cl fp).p) hs,
    ok_lc hws hi.o (hg X.s_0 X.H_0 0 [] []).o (ht X.s_0 X.H_0 0 [] []).o (he X.s_0 X.H_0 0 [] []).o⟩
end
end L3
set_option maxHeartbeats 4000000
namespace L3
open PySem L2 RZ

/-! ### statements -/
inductive Fl where
  | nx (ρ : En) | rt (d : Dat)
/-- behind a return -/
structure Nr (Hk H : Hp) (σ : L2.St) (ρ : En) (Hk' H' : Hp) : Prop where
  kk : Le Hk Hk'
  kh : Le Hk' H'
  fr : ∀ l o, H l = some o → ¬ Own σ ρ l → H' l = some o
  sp : ∀ l, Hk l = none → H l ≠ none → ¬ Own σ ρ l → Hk' l = none
section
variable {C : Addr} {Hk H Hk1 H1 Hk2 H2 : Hp} {σ σ1 σ2 : L2.St} {ρ ρ1 ρ2 : En}
theorem Nx.nr (n : Nx Hk H Hk1 H1) : Nr Hk H σ ρ Hk1 H1 := ⟨n.kk, n.kh, fun l o e _ => n.hh l o e, fun l e q _ => n.sp l e q⟩
theorem Ns.nr (a : Ns Hk H σ ρ Hk1 H1 σ1 ρ1) (b : Nr Hk1 H1 σ1 ρ1 Hk2 H2) : Nr Hk H σ ρ Hk2 H2 := by
  have no : ∀ l o, H l = some o → ¬ Own σ ρ l → ¬ Own σ1 ρ1 l := fun l o e n z => by
    rcases a.own l z with q | q
    · exact n q
    · rw [e] at q; cases q
  refine ⟨a.kk.trans b.kk, b.kh, fun l o e n => b.fr l o (a.fr l o e n) (no l o e n), fun l e n q => ?_⟩
  cases h : H l with
  | none => exact absurd h n
  | some o => exact b.sp l (a.sp l e n q) (by rw [a.fr l o h q]; intro z; cases z) (no l o h q)
/-- slots change, the heap does not -/
theorem ns_slots (h : Le Hk H) (o : ∀ l, Own σ1 ρ1 l → Own σ ρ l) : Ns Hk H σ ρ Hk H σ1 ρ1 := ⟨Le.refl _, h, fun _ _ e _ => e, fun _ e _ _ => e, fun l e => .inl (o l e)⟩
/-- an owned list changes -/
theorem Rel.mut {i : Nat} {ds es : List Dat} {l : Addr} {ys : List V} (r : Rel C Hk H σ ρ) (hi : ρ[i]? = some (.ow ds)) (hl : σ[i]? = some (some (.ref l))) (hy : RpL C Hk es ys) :
    Rel C Hk (upd H l (.lst ys)) σ (ρ.set i (.ow es)) ∧ Ns Hk H σ ρ Hk (upd H l (.lst ys)) σ (ρ.set i (.ow es)) := by
  have hk : Hk l = none := by
    obtain ⟨l', xs, h1, h2, _⟩ := r.ow i ds hi
    rw [hl] at h1; cases h1; exact h2
  have hil : i < ρ.length := (List.getElem?_eq_some_iff.mp hi).1
  have kh : Le Hk (upd H l (.lst ys)) := fun a o e => by
    have z : a ≠ l := fun z => by subst z; rw [hk] at e; cases e
    rw [upd_ne z]; exact r.kh a o e
  have own : ∀ m, Own σ (ρ.set i (.ow es)) m → Own σ ρ m := fun m ⟨j, a, h1, h2⟩ => by
    by_cases z : i = j
    · subst z
      exact ⟨i, ds, hi, h2⟩
    · rw [List.getElem?_set_ne z] at h1
      exact ⟨j, a, h1, h2⟩
  refine ⟨⟨kh, by simp [r.len], fun j d hj => ?_, fun j fs hj => ?_, fun j k m a b hj hk' h1 h2 => ?_⟩, ⟨Le.refl _, kh, fun m o e n => ?_, fun _ e _ _ => e, fun m e => .inl (own m e)⟩⟩
  · by_cases z : i = j
    · subst z
      rw [List.getElem?_set_self hil] at hj; cases hj
    · rw [List.getElem?_set_ne z] at hj
      exact r.fz j d hj
  · by_cases z : i = j
    · subst z
      rw [List.getElem?_set_self hil] at hj; cases hj
      exact ⟨l, ys, hl, hk, upd_same, hy⟩
    · rw [List.getElem?_set_ne z] at hj
      obtain ⟨m, xs, h1, h2, h3, h4⟩ := r.ow j fs hj
      have ne : m ≠ l := fun e => by subst e; exact z (r.ds i j m ds fs hi hj hl h1)
      exact ⟨m, xs, h1, h2, by rw [upd_ne ne]; exact h3, h4⟩
  · have e1 : ∃ a', ρ[j]? = some (.ow a') := by
      by_cases z : i = j
      · subst z; exact ⟨ds, hi⟩
      · rw [List.getElem?_set_ne z] at hj; exact ⟨a, hj⟩
    have e2 : ∃ b', ρ[k]? = some (.ow b') := by
      by_cases z : i = k
      · subst z; exact ⟨ds, hi⟩
      · rw [List.getElem?_set_ne z] at hk'; exact ⟨b, hk'⟩
    obtain ⟨a', e1⟩ := e1
    obtain ⟨b', e2⟩ := e2
    exact r.ds j k m a' b' e1 e2 h1 h2
  · have z : m ≠ l := fun z => by subst z; exact n ⟨i, ds, hi, hl⟩
    rw [upd_ne z]; exact e
end
def OkS (C : Addr) (t : TS) (s : En → Option Fl) : Prop := ∀ (Hk H : Hp) (σ : L2.St) (ρ : En) (r : Fl), Rel C Hk H σ ρ → s ρ = some r → ∀ D : Ends,
  (∀ ρ', r = .nx ρ' → ∀ σ' Hk' H', Ns Hk H σ ρ Hk' H' σ' ρ' → Rel C Hk' H' σ' ρ' → D.nx σ' H') → (∀ d, r = .rt d → ∀ v Hk' H', Nr Hk H σ ρ Hk' H' → Rp C Hk' d v → D.rt v H') → t D σ H
structure SS (X : Cx) (C : Addr) (st : Stmt) (t : TS) (s : En → Option Fl) : Prop where
  p : PS X st t
  o : OkS C t s
structure SSs (X : Cx) (C : Addr) (st : List Stmt) (t : TS) (s : En → Option Fl) : Prop where
  p : PSs X st t
  o : OkS C t s
def sNext : En → Option Fl := fun ρ => some (.nx ρ)
def sSeq (a b : En → Option Fl) : En → Option Fl := fun ρ => (a ρ).bind fun r => match r with
  | .nx ρ' => b ρ'
  | .rt d => some (.rt d)
def sSet (i : Nat) (f : En → Option Dat) : En → Option Fl := fun ρ => (f ρ).bind fun d => some (.nx (ρ.set i (.fz d)))
def sSetO (i : Nat) (f : En → Option (List Dat)) : En → Option Fl := fun ρ => (f ρ).bind fun ds => some (.nx (ρ.set i (.ow ds)))
def sAsg (f : En → Option Dat) (h : Dat → En → Option En) : En → Option Fl := fun ρ => (f ρ).bind fun d => (h d ρ).bind fun ρ' => some (.nx ρ')
def sIf (t : En → Option Bool) (a b : En → Option Fl) : En → Option Fl := fun ρ => (t ρ).bind fun c => match c with
  | true => a ρ
  | false => b ρ
def sRet (f : En → Option Dat) : En → Option Fl := fun ρ => (f ρ).bind fun d => some (.rt d)
def sRetO (f : En → Option (List Dat)) : En → Option Fl := fun ρ => (f ρ).bind fun ds => some (.rt (.lst ds))
def sNever : En → Option Fl := fun _ => none
def sApp (i : Nat) (f : En → Option Dat) : En → Option Fl := fun ρ => (fO i ρ).bind fun ds => (f ρ).bind fun d => if ds.length < 100000 then some (.nx (ρ.set i (.ow (ds ++ [d])))) else none
def sExt (i : Nat) (f : En → Option (List Dat)) : En → Option Fl := fun ρ => (fO i ρ).bind fun ds => (f ρ).bind fun es => if ds.length + es.length ≤ 100000 then some (.nx (ρ.set i (.ow (ds ++ es)))) else none
def sSetI (i : Nat) (g : En → Option Dat) (f : En → Option Dat) : En → Option Fl := fun ρ => (f ρ).bind fun d => (fO i ρ).bind fun ds => (g ρ).bind fun k => (intOf k).bind fun k => (ixN ds.length k).bind fun j => some (.nx (ρ.set i (.ow (ds.set j d))))
def sAug (p : Int → Int → Int) (i : Nat) (f : En → Option Dat) : En → Option Fl := fun ρ => (fV i ρ).bind fun a => (intOf a).bind fun a => (f ρ).bind fun b => (intOf b).bind fun b => some (.nx (ρ.set i (.fz (.int (p a b)))))
def forGo (h : Dat → En → Option En) (b : En → Option Fl) : List Dat → En → Option Fl
  | [], ρ => some (.nx ρ)
  | d :: ds, ρ => (h d ρ).bind fun ρ1 => (b ρ1).bind fun r => match r with
    | .nx ρ2 => forGo h b ds ρ2
    | .rt v => some (.rt v)
def sFor (it : En → Option (List Dat)) (h : Dat → En → Option En) (b : En → Option Fl) : En → Option Fl := fun ρ => (it ρ).bind fun ds => forGo h b ds ρ
def whileGo (c : En → Option Bool) (b : En → Option Fl) : Nat → En → Option Fl
  | 0, _ => none
  | n + 1, ρ => (c ρ).bind fun k => match k with
    | true => (b ρ).bind fun r => match r with
      | .nx ρ2 => whileGo c b n ρ2
      | .rt v => some (.rt v)
    | false => some (.nx ρ)
def fuel : Nat := 1000000
def sWhile (c : En → Option Bool) (b : En → Option Fl) : En → Option Fl := fun ρ => whileGo c b fuel ρ
section
variable {C : Addr} {X : Cx} {st : Stmt} {rest sts sts' : List Stmt} {t u : TS} {s s' : En → Option Fl} {e a b c : Expr} {pos : Pos} {ue ua ub : TE} {vc : TT} {f fa fb : En → Option Dat} {la lb : En → Option (List Dat)} {ft : En → Option Bool} {g : TG} {h : Dat → En → Option En} {vs : List Nat}
theorem ok_next : OkS C tNext sNext := fun Hk H σ ρ r rl e D hn hr => by
  cases e
  exact hn ρ rfl σ Hk H (Ns.refl rl.kh) rl
theorem ok_seq (h1 : OkS C t s) (h2 : OkS C u s') : OkS C (tSeq t u) (sSeq s s') := fun Hk H σ ρ r rl e D hn hr => by
  obtain ⟨r1, e1, e⟩ := Option.bind_eq_some_iff.mp (show (s ρ).bind _ = some r from e)
  refine h1 Hk H σ ρ r1 rl e1 { D with nx := u D } (fun ρ1 z σ1 Hk1 H1 n1 rl1 => ?_) (fun d z v Hk1 H1 n1 rv => ?_)
  · subst z
    exact h2 Hk1 H1 σ1 ρ1 r rl1 e D (fun ρ2 z σ2 Hk2 H2 n2 rl2 => hn ρ2 z σ2 Hk2 H2 (n1.trans n2) rl2) (fun d z v Hk2 H2 n2 rv => hr d z v Hk2 H2 (n1.nr n2) rv)
  · subst z
    cases e
    exact hr d rfl v Hk1 H1 n1 rv
theorem ss_nil : SSs X C [] tNext sNext := ⟨pss_nil, ok_next⟩
theorem ss_cons (h1 : SS X C st t s) (h2 : SSs X C rest u s') : SSs X C (st :: rest) (tSeq t u) (sSeq s s') := ⟨pss_cons h1.p h2.p, ok_seq h1.o h2.o⟩
theorem ss_one (h1 : SS X C st t s) : SSs X C [st] t s := ⟨pss_one h1.p, h1.o⟩
theorem ok_set {i : Nat} (he : OkE C ue f) : OkS C (tAsg ue (gName i)) (sSet i f) := fun Hk H σ ρ r rl e D hn hr => by
  obtain ⟨d, e1, e⟩ := Option.bind_eq_some_iff.mp (show (f ρ).bind _ = some r from e)
  cases e
  refine he Hk H σ ρ d rl e1 _ fun v Hk1 H1 n1 r1 => ?_
  exact hn _ rfl _ Hk1 H1 (n1.ns.trans (ns_slots n1.kh fun l => own_setF)) ((rl.nx n1).setF r1)
theorem ss_set (i : Nat) {x : Str} {pos' : Pos} (hN : X.N.Nodup) (he : SE X C e ue f) (hi : X.N[i]? = some x := by rfl) (hx : Loc X.env.scope x := by first | exact .inl rfl | exact .inr rfl) (hs : swapsWith e (some (.Name x pos')) pos.line X.env = pure false := by rfl) (hf : X.fn x = true ∨ X.env.scope.names.lookup x = some .local := by first | exact .inl rfl | exact .inr rfl) :
    SS X C (.Assign [.Name x pos'] e pos) (tAsg ue (gName i)) (sSet i f) := ⟨ps_set hN hi hx he.p hs hf, ok_set he.o⟩
theorem ok_setO {i : Nat} (he : OkL C ue la) : OkS C (tAsg ue (gName i)) (sSetO i la) := fun Hk H σ ρ r rl e D hn hr => by
  obtain ⟨ds, e1, e⟩ := Option.bind_eq_some_iff.mp (show (la ρ).bind _ = some r from e)
  cases e
  refine he Hk H σ ρ ds rl e1 _ fun p xs Hk1 H1 n1 h0 h1 h2 r1 => ?_
  have no : ∀ l, Own σ ρ l → l ≠ p := fun l ⟨j, a, hj, hl⟩ z => by
    subst z
    obtain ⟨m, ys, k1, _, k3, _⟩ := rl.ow j a hj
    rw [hl] at k1; cases k1
    rw [h0] at k3; cases k3
  refine hn _ rfl _ Hk1 H1 ⟨n1.kk, n1.kh, fun l o e _ => n1.hh l o e, fun l e q _ => n1.sp l e q, fun l e => ?_⟩ ((rl.nx n1).setO no h1 h2 r1)
  rcases own_setO rl.len e with q | q
  · exact .inl q
  · subst q; exact .inr h0
theorem ss_setO (i : Nat) {x : Str} {pos' : Pos} (hN : X.N.Nodup) (he : SL X C e ue la) (hi : X.N[i]? = some x := by rfl) (hx : Loc X.env.scope x := by first | exact .inl rfl | exact .inr rfl) (hs : swapsWith e (some (.Name x pos')) pos.line X.env = pure false := by rfl) (hf : X.fn x = true ∨ X.env.scope.names.lookup x = some .local := by first | exact .inl rfl | exact .inr rfl) :
    SS X C (.Assign [.Name x pos'] e pos) (tAsg ue (gName i)) (sSetO i la) := ⟨ps_set hN hi hx he.p hs hf, ok_setO he.o⟩
theorem ss_asg {tg : Expr} (he : SE X C e ue f) (hg : SG X C tg vs g h) (hs : swapsWithSole [tg] e pos.line X.env = pure false := by rfl) (hw : swappedStores [tg] e X.env = pure none := by rfl)
    (h1 : (assignEach [tg] X.env).map (·.2) = [assign tg X.env] := by rfl) : SS X C (.Assign [tg] e pos) (tAsg ue g) (sAsg f h) := by
  refine ⟨ps_asg he.p hg.p hs hw h1, fun Hk H σ ρ r rl e D hn hr => ?_⟩
  obtain ⟨d, e1, e⟩ := Option.bind_eq_some_iff.mp (show (f ρ).bind _ = some r from e)
  obtain ⟨ρ1, e2, e⟩ := Option.bind_eq_some_iff.mp e
  cases e
  refine he.o Hk H σ ρ d rl e1 _ fun v Hk1 H1 n1 r1 => ?_
  exact hg.o Hk1 H1 σ ρ ρ1 d v (rl.nx n1) r1 e2 _ fun σ1 rl1 _ _ o1 => hn ρ1 rfl σ1 Hk1 H1 (n1.ns.trans (ns_slots n1.kh o1)) rl1
theorem ss_if (hc : ST X C c vc ft) (h1 : SSs X C sts t s) (h2 : SSs X C sts' u s') : SS X C (.If c sts sts' pos) (tIfS vc t u) (sIf ft s s') := by
  refine ⟨ps_if hc.p h1.p h2.p, fun Hk H σ ρ r rl e D hn hr => ?_⟩
  obtain ⟨k, e1, e⟩ := Option.bind_eq_some_iff.mp (show (ft ρ).bind _ = some r from e)
  refine hc.o Hk H σ ρ k rl e1 _ fun Hk1 H1 n1 => ?_
  cases k with
  | true => exact iteT (h1.o Hk1 H1 σ ρ r (rl.nx n1) e D (fun ρ2 z σ2 Hk2 H2 n2 rl2 => hn ρ2 z σ2 Hk2 H2 (n1.ns.trans n2) rl2) (fun d z v Hk2 H2 n2 rv => hr d z v Hk2 H2 (n1.ns.nr n2) rv))
  | false => exact iteF (h2.o Hk1 H1 σ ρ r (rl.nx n1) e D (fun ρ2 z σ2 Hk2 H2 n2 rl2 => hn ρ2 z σ2 Hk2 H2 (n1.ns.trans n2) rl2) (fun d z v Hk2 H2 n2 rv => hr d z v Hk2 H2 (n1.ns.nr n2) rv))
theorem ss_ret (he : SE X C e ue f) : SS X C (.Return (some e) pos) (tRet ue) (sRet f) := by
  refine ⟨ps_ret he.p, fun Hk H σ ρ r rl e D hn hr => ?_⟩
  obtain ⟨d, e1, e⟩ := Option.bind_eq_some_iff.mp (show (f ρ).bind _ = some r from e)
  cases e
  exact he.o Hk H σ ρ d rl e1 _ fun v Hk1 H1 n1 r1 => hr d rfl v Hk1 H1 n1.nr r1
/-- an owned list is handed back -/
theorem ss_retO (i : Nat) {x : Str} {p : Pos} (hN : X.N[i]? = some x := by rfl) (hv : Vis X.env.scope x := by first | exact Or.inl rfl | exact Or.inr (Or.inl rfl) | exact Or.inr (Or.inr rfl)) (hd : (x == ("__debug__" : Str)) = false := by decide)
    (hcd : (x == ("__classdict__" : Str)) = false := by decide) : SS X C (.Return (some (.Name x p)) pos) (tRet (tVar i)) (sRetO (fO i)) := by
  refine ⟨ps_ret (pe_var hN hv hd hcd), fun Hk H σ ρ r rl e D hn hr => ?_⟩
  obtain ⟨ds, e1, e⟩ := Option.bind_eq_some_iff.mp (show (fO i ρ).bind _ = some r from e)
  cases e
  have ho := fO_some e1
  obtain ⟨l, xs, h1, h2, h3, h4⟩ := rl.ow i ds ho
  refine ⟨.ref l, h1, hr _ rfl _ (upd Hk l (.lst xs)) H ⟨Le.new h2, fun q o e => ?_, fun _ _ e _ => e, fun m e n q => ?_⟩ (rp_lst upd_same (h4.mono (Le.new h2)))⟩
  · by_cases z : q = l
    · subst z; rw [upd_same] at e; cases e; exact h3
    · rw [upd_ne z] at e; exact rl.kh q o e
  · have z : m ≠ l := fun z => by subst z; exact q ⟨i, ds, ho, h1⟩
    rw [upd_ne z]; exact e
theorem ss_never : SS X C st tNever sNever := ⟨ps_never, fun Hk H σ ρ r rl e D hn hr => by cases e⟩
theorem sss_never : SSs X C sts tNever sNever := ⟨pss_never, fun Hk H σ ρ r rl e D hn hr => by cases e⟩
/-- found.append(e), found.extend(xs), of an owned list -/
theorem ss_app (i : Nat) {x : Str} {p1 apos cpos : Pos} (he : SE X C e ue f) (hN : X.N[i]? = some x := by rfl) (hv : Vis X.env.scope x := by first | exact Or.inl rfl | exact Or.inr (Or.inl rfl) | exact Or.inr (Or.inr rfl))
    (hd : (x == ("__debug__" : Str)) = false := by decide) (hcd : (x == ("__classdict__" : Str)) = false := by decide)
    (hbase : attributeBase (.Name x p1) "append" X.env (eval (.Name x p1) X.env) = eval (.Name x p1) X.env := by rfl)
    (hfew : ((backTo cpos (starEach [e] X.env)).all (fun x => !x.1) && (backToKw cpos (keywordEach [] X.env)).all (fun x => x.1.isSome)
      && decide ([e].length + ([] : List Keyword).length + (if ([] : List Keyword).isEmpty then 0 else 1) < 30)) = true := by rfl)
    (hline : (apos.endLine == cpos.line) = true := by rfl) (hs : starEach [e] X.env = [(false, eval e X.env)] := by rfl)
    (hsw : swapsWith (.Call (.Attribute (.Name x p1) "append" apos) [e] [] cpos) none pos.line X.env = pure false := by rfl) :
    SS X C (.Expr (.Call (.Attribute (.Name x p1) "append" apos) [e] [] cpos) pos) (tDrop (tBM X.K "list" rAppend (tVar i) (tCons ue tNil))) (sApp i f) := by
  refine ⟨ps_expr (pe_bm PySem.F.plainAttrs_list PySem.F.slot_list_append PySem.F.type_list_append mt_append (pe_var hN hv hd hcd) (pa_cons he.p pa_nil hs) hbase hfew hline hs rfl) hsw, fun Hk H σ ρ r rl e D hn hr => ?_⟩
  obtain ⟨ds, e1, e⟩ := Option.bind_eq_some_iff.mp (show (fO i ρ).bind _ = some r from e)
  obtain ⟨d, e2, e⟩ := Option.bind_eq_some_iff.mp e
  split at e
  · rename_i hz
    cases e
    have ho := fO_some e1
    obtain ⟨l, xs, h1, h2, h3, h4⟩ := rl.ow i ds ho
    refine ⟨.ref l, h1, .inl ⟨rfl, xs, SqL.of h3⟩, he.o Hk H σ ρ d rl e2 _ fun v Hk1 H1 n1 r1 => ?_⟩
    refine ⟨l, xs, v, rfl, rfl, n1.hh _ _ h3, by rw [h4.length]; exact sz_lt hz, ?_⟩
    obtain ⟨rl2, ns2⟩ := (rl.nx n1).mut ho h1 ((h4.mono n1.kk).append (rpl_cons r1 rpl_nil))
    exact hn _ rfl σ Hk1 _ (n1.ns.trans ns2) rl2
  · cases e
theorem ss_ext (i : Nat) {x : Str} {p1 apos cpos : Pos} (he : SW X C e ue la) (hN : X.N[i]? = some x := by rfl) (hv : Vis X.env.scope x := by first | exact Or.inl rfl | exact Or.inr (Or.inl rfl) | exact Or.inr (Or.inr rfl))
    (hd : (x == ("__debug__" : Str)) = false := by decide) (hcd : (x == ("__classdict__" : Str)) = false := by decide)
    (hbase : attributeBase (.Name x p1) "extend" X.env (eval (.Name x p1) X.env) = eval (.Name x p1) X.env := by rfl)
    (hfew : ((backTo cpos (starEach [e] X.env)).all (fun x => !x.1) && (backToKw cpos (keywordEach [] X.env)).all (fun x => x.1.isSome)
      && decide ([e].length + ([] : List Keyword).length + (if ([] : List Keyword).isEmpty then 0 else 1) < 30)) = true := by rfl)
    (hline : (apos.endLine == cpos.line) = true := by rfl) (hs : starEach [e] X.env = [(false, eval e X.env)] := by rfl)
    (hsw : swapsWith (.Call (.Attribute (.Name x p1) "extend" apos) [e] [] cpos) none pos.line X.env = pure false := by rfl) :
    SS X C (.Expr (.Call (.Attribute (.Name x p1) "extend" apos) [e] [] cpos) pos) (tDrop (tBM X.K "list" rExtend (tVar i) (tCons ue tNil))) (sExt i la) := by
  refine ⟨ps_expr (pe_bm PySem.F.plainAttrs_list PySem.F.slot_list_extend PySem.F.type_list_extend mt_extend (pe_var hN hv hd hcd) (pa_cons he.p pa_nil hs) hbase hfew hline hs rfl) hsw, fun Hk H σ ρ r rl e D hn hr => ?_⟩
  obtain ⟨ds, e1, e⟩ := Option.bind_eq_some_iff.mp (show (fO i ρ).bind _ = some r from e)
  obtain ⟨es, e2, e⟩ := Option.bind_eq_some_iff.mp e
  split at e
  · rename_i hz
    cases e
    have ho := fO_some e1
    obtain ⟨l, xs, h1, h2, h3, h4⟩ := rl.ow i ds ho
    refine ⟨.ref l, h1, .inl ⟨rfl, xs, SqL.of h3⟩, he.o Hk H σ ρ es rl e2 _ fun m ys Hk1 H1 n1 k1 r1 => ?_⟩
    refine ⟨l, m, xs, ys, rfl, rfl, n1.hh _ _ h3, k1, by rw [h4.length, r1.length]; exact sz_of hz, ?_⟩
    obtain ⟨rl2, ns2⟩ := (rl.nx n1).mut ho h1 ((h4.mono n1.kk).append r1)
    exact hn _ rfl σ Hk1 _ (n1.ns.trans ns2) rl2
  · cases e
/-- left[k] = e, of an owned list -/
theorem ss_setI (i : Nat) {x : Str} {p1 p2 : Pos} {k : Expr} {uk : TE} {fk : En → Option Dat} (he : SE X C e ue f) (hk : SE X C k uk fk) (hN : X.N[i]? = some x := by rfl) (hv : Vis X.env.scope x := by first | exact Or.inl rfl | exact Or.inr (Or.inl rfl) | exact Or.inr (Or.inr rfl))
    (hd : (x == ("__debug__" : Str)) = false := by decide) (hcd : (x == ("__classdict__" : Str)) = false := by decide)
    (ha : ∀ v, assign (.Subscript (.Name x p1) k p2) X.env v = (do
      let ov ← holding [v] (eval (.Name x p1) X.env)
      let iv ← holding [v, ov] (eval k X.env)
      standAt p2
      holding [v, ov, iv] (setItem ov iv v)
      release [v, ov, iv] []) := by intro _; rfl)
    (hs : swapsWithSole [.Subscript (.Name x p1) k p2] e pos.line X.env = pure false := by rfl) (hw : swappedStores [.Subscript (.Name x p1) k p2] e X.env = pure none := by rfl)
    (h1 : (assignEach [.Subscript (.Name x p1) k p2] X.env).map (·.2) = [assign (.Subscript (.Name x p1) k p2) X.env] := by rfl) :
    SS X C (.Assign [.Subscript (.Name x p1) k p2] e pos) (tAsg ue (gSub (tVar i) uk rSetL)) (sSetI i fk f) := by
  refine ⟨ps_asg he.p (pg_sub (pe_var hN hv hd hcd) hk.p set_list ha) hs hw h1, fun Hk H σ ρ r rl e D hn hr => ?_⟩
  obtain ⟨d, e0, e⟩ := Option.bind_eq_some_iff.mp (show (f ρ).bind _ = some r from e)
  obtain ⟨ds, e1, e⟩ := Option.bind_eq_some_iff.mp e
  obtain ⟨kd, e2, e⟩ := Option.bind_eq_some_iff.mp e
  obtain ⟨ki, e3, e⟩ := Option.bind_eq_some_iff.mp e
  obtain ⟨j, e4, e⟩ := Option.bind_eq_some_iff.mp e
  cases e
  cases kd <;> simp only [intOf, reduceCtorEq] at e3
  cases e3
  have ho := fO_some e1
  obtain ⟨l, xs, h1, h2, h3, h4⟩ := rl.ow i ds ho
  refine he.o Hk H σ ρ d rl e0 _ fun v Hk1 H1 n1 r1 => ?_
  refine ⟨.ref l, h1, hk.o Hk1 H1 σ ρ _ (rl.nx n1) e2 _ fun v2 Hk2 H2 n2 r2 => ?_⟩
  have n12 := n1.trans n2
  refine ⟨l, xs, _, j, rfl, r2.int, n12.hh _ _ h3, by rw [h4.length]; exact e4, ?_⟩
  obtain ⟨rl2, ns2⟩ := (rl.nx n12).mut ho h1 (RpL.set (r1.mono n2.kk) j (h4.mono n12.kk))
  exact hn _ rfl σ Hk2 _ (n12.ns.trans ns2) rl2
theorem ss_aug {op : Operator} {p : Int → Int → Int} (i : Nat) {x : Str} {pos' : Pos} (hN : X.N.Nodup) (ho : PIp X op (ipI p)) (he : SE X C e ue f) (hi : X.N[i]? = some x := by rfl) (hx : Loc X.env.scope x := by first | exact .inl rfl | exact .inr rfl) (hf : X.fn x = true ∨ X.env.scope.names.lookup x = some .local := by first | exact .inl rfl | exact .inr rfl) :
    SS X C (.AugAssign (.Name x pos') op e pos) (tAug i ue (ipI p)) (sAug p i f) := by
  refine ⟨ps_aug hN hi hx he.p ho hf, fun Hk H σ ρ r rl e D hn hr => ?_⟩
  obtain ⟨a, e1, e⟩ := Option.bind_eq_some_iff.mp (show (fV i ρ).bind _ = some r from e)
  obtain ⟨a', e2, e⟩ := Option.bind_eq_some_iff.mp e
  obtain ⟨b, e3, e⟩ := Option.bind_eq_some_iff.mp e
  obtain ⟨b', e4, e⟩ := Option.bind_eq_some_iff.mp e
  cases e
  cases a <;> simp only [intOf, reduceCtorEq] at e2
  cases b <;> simp only [intOf, reduceCtorEq] at e4
  cases e2; cases e4
  obtain ⟨v, h1, h2⟩ := rl.fz i _ (fV_some e1)
  refine ⟨v, h1, he.o Hk H σ ρ _ rl e3 _ fun w Hk1 H1 n1 r1 => ?_⟩
  refine ⟨_, _, h2.int, r1.int, ?_⟩
  exact hn _ rfl _ Hk1 H1 (n1.ns.trans (ns_slots n1.kh fun l => own_setF)) ((rl.nx n1).setF rp_int)
/-! ### loops -/
theorem ss_for {tg iter : Expr} {wi : TI} (hp : PassesOwn (model X.prog X.w) X.A X.env X.xe) (hc : X.calm = true) (hi : SI X C tg iter wi la) (hg : SG X C tg vs g h) (hb : SSs X C sts t s) (hs : ∀ x, foldedSetIterable iter X.env x = pure x := by intro _; rfl) :
    SS X C (.For tg iter sts [] pos) (tFor wi g t) (sFor la h s) := by
  refine ⟨ps_for hp hc hi.p hg.p hb.p hs, fun Hk H σ ρ r rl e D hn hr => ?_⟩
  obtain ⟨ds, e1, e⟩ := Option.bind_eq_some_iff.mp (show (la ρ).bind _ = some r from e)
  refine hi.o Hk H σ ρ ds rl e1 _ fun J Hk1 H1 n1 W => ?_
  let Pv : Nat → L2.St → Hp → Prop := fun i σ' H' => ∃ (Hk' : Hp) (ρ' : En), Ns Hk H σ ρ Hk' H' σ' ρ' ∧ Le Hk1 Hk' ∧ Rel C Hk' H' σ' ρ' ∧ forGo h s (ds.drop i) ρ' = some r
  refine ⟨fun i m σ' H' => m = ds.length - i ∧ i ≤ ds.length ∧ Pv i σ' H', ⟨ds.length, by simp, Nat.zero_le _, Hk1, ρ, n1.ns, Le.refl _, rl.nx n1, e⟩, ?_⟩
  rintro i m σ' H' ⟨rfl, hi', Hk', ρ', ns', hk1, rl', hgo⟩
  by_cases hlt : i < ds.length
  · refine .inr ⟨W.go i _ hlt (hk1.trans rl'.kh), Pv (i + 1), fun σ2 H2 p' => ⟨ds.length - (i + 1), by omega, rfl, hlt, p'⟩, fun x H2 y => ?_⟩
    obtain ⟨d, Hk2, e2, n2, rd⟩ := W.yld i _ x H2 hlt (hk1.trans rl'.kh) y Hk' hk1 rl'.kh
    have edrop : ds.drop i = d :: ds.drop (i + 1) := by
      rw [List.drop_eq_getElem_cons hlt]
      have : ds[i]? = some ds[i] := List.getElem?_eq_getElem hlt
      rw [this] at e2; cases e2; rfl
    rw [edrop] at hgo
    obtain ⟨ρ1, e3, hgo⟩ := Option.bind_eq_some_iff.mp (show (h d ρ').bind _ = some r from hgo)
    obtain ⟨r1, e4, hgo⟩ := Option.bind_eq_some_iff.mp hgo
    refine hg.o Hk2 H2 σ' ρ' ρ1 d x (rl'.nx n2) rd e3 _ fun σ3 rl3 _ _ o3 => ?_
    have ns3 : Ns Hk H σ ρ Hk2 H2 σ3 ρ1 := (ns'.trans n2.ns).trans (ns_slots n2.kh o3)
    refine hb.o Hk2 H2 σ3 ρ1 r1 rl3 e4 _ (fun ρ4 z σ4 Hk4 H4 n4 rl4 => ?_) (fun dv z v Hk4 H4 n4 rv => ?_)
    · subst z
      exact ⟨Hk4, ρ4, ns3.trans n4, hk1.trans (n2.kk.trans n4.kk), rl4, hgo⟩
    · subst z
      cases hgo
      exact hr dv rfl v Hk4 H4 (ns3.nr n4) rv
  · have z : i = ds.length := by omega
    subst z
    rw [List.drop_length] at hgo
    cases hgo
    exact .inl ⟨W.stop _ (hk1.trans rl'.kh), hn ρ' rfl σ' Hk' H' ns' rl'⟩
theorem ss_while (hp : PassesOwn (model X.prog X.w) X.A X.env X.xe) (hc : ST X C c vc ft) (hb : SSs X C sts t s) : SS X C (.While c sts [] pos) (tWhile vc t) (sWhile ft s) := by
  refine ⟨ps_while hp hc.p hb.p, fun Hk H σ ρ r rl e D hn hr => ?_⟩
  refine ⟨fun m σ' H' => ∃ (Hk' : Hp) (ρ' : En), Ns Hk H σ ρ Hk' H' σ' ρ' ∧ Rel C Hk' H' σ' ρ' ∧ whileGo ft s m ρ' = some r, ⟨fuel, Hk, ρ, Ns.refl rl.kh, rl, e⟩, ?_⟩
  rintro m σ' H' ⟨Hk', ρ', ns', rl', hgo⟩
  cases m with
  | zero => cases hgo
  | succ m =>
    obtain ⟨k, e1, hgo⟩ := Option.bind_eq_some_iff.mp (show (ft ρ').bind _ = some r from hgo)
    refine hc.o Hk' H' σ' ρ' k rl' e1 _ fun Hk1 H1 n1 => ?_
    cases k with
    | true =>
      obtain ⟨r1, e2, hgo⟩ := Option.bind_eq_some_iff.mp (show (s ρ').bind _ = some r from hgo)
      refine iteT ⟨fun σ2 H2 => ∃ (Hk2 : Hp) (ρ2 : En), Ns Hk H σ ρ Hk2 H2 σ2 ρ2 ∧ Rel C Hk2 H2 σ2 ρ2 ∧ whileGo ft s m ρ2 = some r, fun σ2 H2 p => ⟨m, Nat.lt_succ_self m, p⟩, ?_⟩
      refine hb.o Hk1 H1 σ' ρ' r1 (rl'.nx n1) e2 _ (fun ρ4 z σ4 Hk4 H4 n4 rl4 => ?_) (fun dv z v Hk4 H4 n4 rv => ?_)
      · subst z
        exact ⟨Hk4, ρ4, (ns'.trans n1.ns).trans n4, rl4, hgo⟩
      · subst z
        cases hgo
        exact hr dv rfl v Hk4 H4 ((ns'.trans n1.ns).nr n4) rv
    | false =>
      cases hgo
      exact iteF (hn ρ' rfl σ' Hk1 H1 (ns'.trans n1.ns) (rl'.nx n1))
end
/-! ### a def from its body -/
def runF (s : En → Option Fl) (n : Nat) (ds : List Dat) : Option Dat := (s (ds.map Sl.fz ++ List.replicate n .no)).bind fun r => match r with
  | .rt d => some d
  | .nx _ => some .non
theorem start_rel {C : Addr} {Hk H : Hp} {N : List Str} {vs : List V} {ds : List Dat} (h : Le Hk H) (r : RpL C Hk ds vs) (hn : vs.length ≤ N.length) : Rel C Hk H (L2.start N vs) (ds.map Sl.fz ++ List.replicate (N.length - ds.length) .no) := by
  have hl : vs.length = ds.length := r.length
  have nofz : ∀ (i : Nat) (es : List Dat), ¬ (ds.map Sl.fz ++ List.replicate (N.length - ds.length) Sl.no)[i]? = some (.ow es) := fun i es e => by
    by_cases z : i < ds.length
    · rw [List.getElem?_append_left (by simpa using z), List.getElem?_map] at e
      cases q : ds[i]? <;> rw [q] at e <;> cases e
    · rw [List.getElem?_append_right (by simpa using z)] at e
      have := List.mem_of_getElem? e
      rw [List.mem_replicate] at this
      cases this.2
  refine ⟨h, by unfold L2.start; simp [hl], fun i d e => ?_, fun i es e => absurd e (nofz i es), fun i j l a b e => absurd e (nofz i a)⟩
  by_cases z : i < ds.length
  · rw [List.getElem?_append_left (by simpa using z), List.getElem?_map] at e
    cases q : ds[i]? with
    | none => rw [q] at e; cases e
    | some d' =>
      rw [q] at e
      cases e
      obtain ⟨x, h1, h2⟩ := r.get q
      refine ⟨x, ?_, h2⟩
      unfold L2.start
      rw [List.getElem?_append_left (by simpa [hl] using z), List.getElem?_map, h1]
      rfl
  · rw [List.getElem?_append_right (by simpa using z)] at e
    have := List.mem_of_getElem? e
    rw [List.mem_replicate] at this
    cases this.2
theorem start_own {C : Addr} {Hk : Hp} {N : List Str} {vs : List V} {ds : List Dat} : ∀ l, ¬ Own (L2.start N vs) (ds.map Sl.fz ++ List.replicate (N.length - ds.length) .no) l := fun l ⟨i, es, e, _⟩ => by
  by_cases z : i < ds.length
  · rw [List.getElem?_append_left (by simpa using z), List.getElem?_map] at e
    cases q : ds[i]? <;> rw [q] at e <;> cases e
  · rw [List.getElem?_append_right (by simpa using z)] at e
    have := List.mem_of_getElem? e
    rw [List.mem_replicate] at this
    cases this.2
section
variable {P : Program} {w : World} {K : PySem.W.Frag} {mg : Str → Option Value} {base : Heap} {C : Addr} {x qual : Str} {params : Arguments} {body : List Stmt} {scope : Scope} {dvs : List V} {kws : List (Str × V)} {f : Addr} {fd : FuncData} {N ps : List Str} {k : Nat}
/-- a body that computes s keeps the promise of its function -/
theorem fn_spf {s : En → Option Fl} (F : FunD K x qual params body scope dvs kws f fd) (S : FnScope N ps scope) (hps : ps.length ≤ N.length)
    (hb : ∀ (cdv : Value) (A : Around) (outer : List Env) (sh : Shared) (H : Hp), Room k (A.deeper (PyProof.Rows.envOfC qual scope sh.heap.objs.size f cdv)) → ∃ t, SSs (cxOf CX0 P w K mg base N qual scope f cdv A outer sh H E0).nox C body t s) :
    FnOk P w K mg base CX0 (k + 1) f fd ps (SpF C ps.length (runF s (N.length - ps.length))) := by
  refine F.ok S (fun vs H Q E h => h.1) (fun cdv A outer sh H vs Q E hr h => ?_)
  obtain ⟨hn, Hk, ds, d, hl, r, e, q⟩ := h
  obtain ⟨t, hp, ho⟩ := hb cdv A outer sh H hr
  have hp' : PSs (cxOf CX0 P w K mg base N qual scope f cdv A outer sh H E) body t := PSs.nox hp
  refine ⟨t, hp', ?_⟩
  have rl := start_rel (N := N) hl r (by rw [hn]; exact hps)
  have own := @start_own C Hk N vs ds
  have hd : ds.length = ps.length := by rw [← r.length]; exact hn
  unfold runF at e
  rw [← hd] at e
  obtain ⟨fl, e1, e2⟩ := Option.bind_eq_some_iff.mp e
  refine ho Hk H (L2.start N vs) _ fl rl e1 _ (fun ρ' z σ' Hk' H' ns rl' => ?_) (fun dv z v Hk' H' nr rv => ?_)
  · subst z
    cases e2
    exact q _ Hk' H' (ns.nx own) rp_non
  · subst z
    cases e2
    exact q v Hk' H' ⟨nr.kk, fun l o e => nr.fr l o e (own l), nr.kh, fun l e n => nr.sp l e n (own l)⟩ rv
end
end L3
set_option maxHeartbeats 4000000
namespace L3
open PySem L2 RZ

/-! ### a, b = .., .. where some are new lists that the def owns -/
def EltOk (C : Addr) (H0 Hk H : Hp) : Sl → V → Prop
  | .fz d, v => Rp C Hk d v
  | .ow ds, v => ∃ p xs, v = .ref p ∧ H0 p = none ∧ Hk p = none ∧ H p = some (.lst xs) ∧ RpL C Hk ds xs
  | .no, _ => False
/-- the values of the elements; no two owned ones are one -/
def BL (C : Addr) (H0 Hk H : Hp) : List Sl → List V → Prop
  | [], vs => vs = []
  | s :: ss, vs => ∃ v r, vs = v :: r ∧ EltOk C H0 Hk H s v ∧ (∀ ds p, s = .ow ds → v = .ref p → ∀ (j : Nat) es, ss[j]? = some (.ow es) → r[j]? ≠ some (.ref p)) ∧ BL C H0 Hk H ss r
def OkB (C : Addr) (n : Nat) (t : TA) (f : En → Option (List Sl)) : Prop := (∀ ρ ss, f ρ = some ss → ss.length = n) ∧ ∀ (Hk H : Hp) (σ : L2.St) (ρ : En) (ss : List Sl), Rel C Hk H σ ρ → f ρ = some ss → ∀ Q : List V → Hp → Prop,
  (∀ vs Hk' H', Nx Hk H Hk' H' → BL C H Hk' H' ss vs → Q vs H') → t σ H Q
structure SB (X : Cx) (C : Addr) (es : List Expr) (t : TA) (f : En → Option (List Sl)) : Prop where
  p : PA X es t
  o : OkB C es.length t f
def bNil : En → Option (List Sl) := fun _ => some []
def bF (a : En → Option Dat) (b : En → Option (List Sl)) : En → Option (List Sl) := fun ρ => (a ρ).bind fun x => (b ρ).bind fun r => some (.fz x :: r)
def bL (a : En → Option (List Dat)) (b : En → Option (List Sl)) : En → Option (List Sl) := fun ρ => (a ρ).bind fun x => (b ρ).bind fun r => some (.ow x :: r)
section
variable {C : Addr} {X : Cx} {e a b c : Expr} {es : List Expr} {ue ua : TE} {gb : TA} {f : En → Option Dat} {la : En → Option (List Dat)} {fb : En → Option (List Sl)} {H0 H1 Hk H Hk' H' : Hp}
theorem BL.length : ∀ {ss : List Sl} {vs : List V}, BL C H0 Hk H ss vs → vs.length = ss.length
  | [], vs, h => by rw [show vs = [] from h]; rfl
  | s :: ss, vs, h => by
    obtain ⟨v, r, rfl, _, _, h⟩ := h
    rw [List.length_cons, List.length_cons, BL.length h]
theorem EltOk.base {s : Sl} {v : V} (l : Le H0 H1) (h : EltOk C H1 Hk H s v) : EltOk C H0 Hk H s v := by
  cases s with
  | no => exact h
  | fz d => exact h
  | ow ds =>
    obtain ⟨p, xs, e, h1, h2⟩ := h
    exact ⟨p, xs, e, l.free h1, h2⟩
theorem BL.base (l : Le H0 H1) : ∀ {ss : List Sl} {vs : List V}, BL C H1 Hk H ss vs → BL C H0 Hk H ss vs
  | [], vs, h => h
  | s :: ss, vs, h => by
    obtain ⟨v, r, e, h1, h2, h3⟩ := h
    exact ⟨v, r, e, h1.base l, h2, BL.base l h3⟩
theorem BL.fresh : ∀ {ss : List Sl} {vs : List V} {j : Nat} {ds : List Dat} {p : Addr}, BL C H0 Hk H ss vs → ss[j]? = some (.ow ds) → vs[j]? = some (.ref p) → H0 p = none
  | [], _, _, _, _, _, e, _ => by simp at e
  | s :: ss, vs, 0, ds, p, h, e, e' => by
    obtain ⟨v, r, rfl, h1, _, _⟩ := h
    simp at e e'
    subst e e'
    obtain ⟨q, xs, z, h2, _⟩ := h1
    cases z; exact h2
  | s :: ss, vs, j + 1, ds, p, h, e, e' => by
    obtain ⟨v, r, rfl, _, _, h3⟩ := h
    exact BL.fresh h3 (by simpa using e) (by simpa using e')
theorem sb_nil : SB X C [] tNil bNil := by
  refine ⟨pa_nil, fun ρ ss e => by cases e; rfl, fun Hk H σ ρ ss r e Q q => ?_⟩
  cases e
  exact q [] Hk H (Nx.refl r.kh) rfl
theorem sb_f (ha : SE X C e ue f) (hb : SB X C es gb fb) (hs : starEach (e :: es) X.env = (false, eval e X.env) :: starEach es X.env := by rfl) : SB X C (e :: es) (tCons ue gb) (bF f fb) := by
  refine ⟨pa_cons ha.p hb.p hs, fun ρ ss e => ?_, fun Hk H σ ρ ss r e Q q => ?_⟩
  · obtain ⟨x, e1, e⟩ := Option.bind_eq_some_iff.mp (show (f ρ).bind _ = some ss from e)
    obtain ⟨y, e2, e⟩ := Option.bind_eq_some_iff.mp e
    cases e
    rw [List.length_cons, hb.o.1 ρ y e2, List.length_cons]
  · obtain ⟨x, e1, e⟩ := Option.bind_eq_some_iff.mp (show (f ρ).bind _ = some ss from e)
    obtain ⟨y, e2, e⟩ := Option.bind_eq_some_iff.mp e
    cases e
    refine ha.o Hk H σ ρ x r e1 _ fun v Hk1 H1 n1 r1 => ?_
    refine hb.o.2 Hk1 H1 σ ρ y (r.nx n1) e2 _ fun vs Hk2 H2 n2 r2 => ?_
    exact q _ Hk2 H2 (n1.trans n2) ⟨v, vs, rfl, r1.mono n2.kk, fun ds p z => (nomatch z), r2.base n1.hh⟩
theorem sb_l (ha : SL X C e ue la) (hb : SB X C es gb fb) (hs : starEach (e :: es) X.env = (false, eval e X.env) :: starEach es X.env := by rfl) : SB X C (e :: es) (tCons ue gb) (bL la fb) := by
  refine ⟨pa_cons ha.p hb.p hs, fun ρ ss e => ?_, fun Hk H σ ρ ss r e Q q => ?_⟩
  · obtain ⟨x, e1, e⟩ := Option.bind_eq_some_iff.mp (show (la ρ).bind _ = some ss from e)
    obtain ⟨y, e2, e⟩ := Option.bind_eq_some_iff.mp e
    cases e
    rw [List.length_cons, hb.o.1 ρ y e2, List.length_cons]
  · obtain ⟨x, e1, e⟩ := Option.bind_eq_some_iff.mp (show (la ρ).bind _ = some ss from e)
    obtain ⟨y, e2, e⟩ := Option.bind_eq_some_iff.mp e
    cases e
    refine ha.o Hk H σ ρ x r e1 _ fun p xs Hk1 H1 n1 h0 h1 h2 r1 => ?_
    refine hb.o.2 Hk1 H1 σ ρ y (r.nx n1) e2 _ fun vs Hk2 H2 n2 r2 => ?_
    refine q _ Hk2 H2 (n1.trans n2) ⟨.ref p, vs, rfl, ⟨p, xs, rfl, h0, n2.sp p h1 (by rw [h2]; intro z; cases z), n2.hh _ _ h2, r1.mono n2.kk⟩, fun ds p' z e j es hj hv => ?_, r2.base n1.hh⟩
    cases e
    have := r2.fresh hj hv
    rw [h2] at this; cases this
def setsS : L2.St → List Nat → List V → L2.St
  | σ, i :: is, v :: vs => setsS (σ.set i (some v)) is vs
  | σ, _, _ => σ
def setsE : En → List Nat → List Sl → En
  | ρ, i :: is, s :: ss => setsE (ρ.set i s) is ss
  | ρ, _, _ => ρ
theorem sets_ok : ∀ {ss : List Sl} {vs : List V} {is : List Nat} {σ : L2.St} {ρ : En} (bad : Addr → Prop), BL C H0 Hk H ss vs → is.length = ss.length → Rel C Hk H σ ρ → (∀ l, Own σ ρ l → bad l) → (∀ (j : Nat) ds p, ss[j]? = some (.ow ds) → vs[j]? = some (.ref p) → ¬ bad p) →
    Rel C Hk H (setsS σ is vs) (setsE ρ is ss) ∧ ∀ l, Own (setsS σ is vs) (setsE ρ is ss) l → bad l ∨ H0 l = none
  | [], vs, is, σ, ρ, bad, h, hl, r, ho, hb => by
    cases is with
    | nil => exact ⟨r, fun l o => .inl (ho l o)⟩
    | cons _ _ => cases hl
  | s :: ss, vs, is, σ, ρ, bad, h, hl, r, ho, hb => by
    cases is with
    | nil => cases hl
    | cons i is =>
      obtain ⟨v, t, rfl, h1, h2, h3⟩ := h
      show Rel C Hk H (setsS (σ.set i (some v)) is t) (setsE (ρ.set i s) is ss) ∧ ∀ l, Own (setsS (σ.set i (some v)) is t) (setsE (ρ.set i s) is ss) l → bad l ∨ H0 l = none
      cases s with
      | no => exact h1.elim
      | fz d =>
        exact sets_ok bad h3 (by simpa using hl) (r.setF h1) (fun l o => ho l (own_setF o)) fun j ds p e e' => hb (j + 1) ds p (by simpa using e) (by simpa using e')
      | ow ds =>
        obtain ⟨p, xs, rfl, k0, k1, k2, k3⟩ := h1
        have np : ¬ bad p := hb 0 ds p rfl rfl
        have := sets_ok (fun l => bad l ∨ l = p) h3 (by simpa using hl) (r.setO (i := i) (fun l o z => by subst z; exact np (ho l o)) k1 k2 k3) (fun l o => (own_setO (i := i) r.len o).imp (ho l) id) (fun j es q e e' => by
          rintro (z | z)
          · exact hb (j + 1) es q (by simpa using e) (by simpa using e') z
          · subst z; exact h2 ds _ rfl rfl j es e e')
        refine ⟨this.1, fun l o => ?_⟩
        rcases this.2 l o with (z | z) | z
        · exact .inl z
        · subst z; exact .inr k0
        · exact .inr z
def sPar (is : List Nat) (f : En → Option (List Sl)) : En → Option Fl := fun ρ => (f ρ).bind fun ss => some (.nx (setsE ρ is ss))
theorem par_end {n : Nat} {is : List Nat} {σ : L2.St} {ρ : En} {ss : List Sl} {vs : List V} {Hk0 : Hp} (rl : Rel C Hk0 H0 σ ρ) (n1 : Nx Hk0 H0 Hk H) (h : BL C H0 Hk H ss vs) (hl : is.length = ss.length) :
    Ns Hk0 H0 σ ρ Hk H (setsS σ is vs) (setsE ρ is ss) ∧ Rel C Hk H (setsS σ is vs) (setsE ρ is ss) := by
  have own0 : ∀ l, Own σ ρ l → H0 l ≠ none := fun l ⟨j, a, hj, h1⟩ z => by
    obtain ⟨m, ys, k1, _, k3, _⟩ := rl.ow j a hj
    rw [h1] at k1; cases k1
    rw [z] at k3; cases k3
  have := sets_ok (fun l => Own σ ρ l) h hl (rl.nx n1) (fun l o => o) fun j ds p e e' o => own0 p o (h.fresh e e')
  exact ⟨⟨n1.kk, n1.kh, fun l o e _ => n1.hh l o e, fun l e q _ => n1.sp l e q, this.2⟩, this.1⟩
theorem ss_par2 {x y : Str} {px py pt pos : Pos} {kt k2 pt2} (i j : Nat) (hc : X.calm = true) (hN : X.N.Nodup) (ha : SB X C [a, b] gb fb) (hi : X.N[i]? = some x := by rfl) (hj : X.N[j]? = some y := by rfl) (hij : i ≠ j := by decide)
    (hx : X.env.scope.names.lookup x = some .local := by rfl) (hy : X.env.scope.names.lookup y = some .local := by rfl)
    (hw : swappedStores [.Tuple [.Name x px, .Name y py] kt pt] (.Tuple [a, b] k2 pt2) X.env = pure (some [x, y]) := by rfl)
    (hs : swapsWithSole [.Tuple [.Name x px, .Name y py] kt pt] (.Tuple [a, b] k2 pt2) pos.line X.env = pure false := by rfl) :
    SS X C (.Assign [.Tuple [.Name x px, .Name y py] kt pt] (.Tuple [a, b] k2 pt2) pos) (tPar i j gb) (sPar [i, j] fb) := by
  refine ⟨ps_par hc hN hi hj hij hx hy ha.p hw hs, fun Hk H σ ρ r rl e D hn hr => ?_⟩
  obtain ⟨ss, e1, e⟩ := Option.bind_eq_some_iff.mp (show (fb ρ).bind _ = some r from e)
  cases e
  have h2 : ss.length = 2 := ha.o.1 ρ ss e1
  refine ha.o.2 Hk H σ ρ ss rl e1 _ fun vs Hk1 H1 n1 r1 => ?_
  obtain ⟨k1, k2⟩ := par_end (n := 2) (is := [i, j]) rl n1 r1 h2.symm
  have hv : vs.length = 2 := r1.length.trans h2
  match vs, hv with
  | [v, u], _ => exact ⟨v, u, rfl, hn _ rfl _ Hk1 H1 k1 k2⟩
theorem ss_par3 {x y z : Str} {px py pz pt pos : Pos} {kt k2 pt2} (i j l : Nat) (hc : X.calm = true) (hN : X.N.Nodup) (ha : SB X C [a, b, c] gb fb) (hi : X.N[i]? = some x := by rfl) (hj : X.N[j]? = some y := by rfl) (hl : X.N[l]? = some z := by rfl) (hij : i ≠ j := by decide) (hil : i ≠ l := by decide) (hjl : j ≠ l := by decide)
    (hx : X.env.scope.names.lookup x = some .local := by rfl) (hy : X.env.scope.names.lookup y = some .local := by rfl) (hz : X.env.scope.names.lookup z = some .local := by rfl)
    (hw : swappedStores [.Tuple [.Name x px, .Name y py, .Name z pz] kt pt] (.Tuple [a, b, c] k2 pt2) X.env = pure (some [x, y, z]) := by rfl)
    (hs : swapsWithSole [.Tuple [.Name x px, .Name y py, .Name z pz] kt pt] (.Tuple [a, b, c] k2 pt2) pos.line X.env = pure false := by rfl) :
    SS X C (.Assign [.Tuple [.Name x px, .Name y py, .Name z pz] kt pt] (.Tuple [a, b, c] k2 pt2) pos) (tPar3 i j l gb) (sPar [i, j, l] fb) := by
  refine ⟨ps_par3 hc hN hi hj hl hij hil hjl hx hy hz ha.p hw hs, fun Hk H σ ρ r rl e D hn hr => ?_⟩
  obtain ⟨ss, e1, e⟩ := Option.bind_eq_some_iff.mp (show (fb ρ).bind _ = some r from e)
  cases e
  have h2 : ss.length = 3 := ha.o.1 ρ ss e1
  refine ha.o.2 Hk H σ ρ ss rl e1 _ fun vs Hk1 H1 n1 r1 => ?_
  obtain ⟨k1, k2⟩ := par_end (n := 3) (is := [i, j, l]) rl n1 r1 h2.symm
  have hv : vs.length = 3 := r1.length.trans h2
  match vs, hv with
  | [v, u, t], _ => exact ⟨v, u, t, rfl, hn _ rfl _ Hk1 H1 k1 k2⟩
/-- the names of a target, in their order -/
def NmG (is : List Nat) (t : TGs) : Prop := ∀ (vs : List V) (σ : L2.St) (H : Hp) (Q : L2.St → Hp → Prop), vs.length = is.length → Q (setsS σ is vs) H → t vs σ H Q
structure SNm (X : Cx) (tgs : List Expr) (is : List Nat) (t : TGs) : Prop where
  p : PGs X tgs t
  o : NmG is t
  l : tgs.length = is.length
theorem nmg_nil : NmG [] gNil := fun vs σ H Q hl q => by
  cases vs with
  | nil => exact ⟨rfl, q⟩
  | cons _ _ => cases hl
theorem snm_nil : SNm X [] [] gNil := ⟨pgs_nil, nmg_nil, rfl⟩
theorem snm_cons (i : Nat) {x : Str} {pos : Pos} {tgs : List Expr} {is : List Nat} {t : TGs} (hN : X.N.Nodup) (h : SNm X tgs is t) (hi : X.N[i]? = some x := by rfl) (hx : Loc X.env.scope x := by first | exact .inl rfl | exact .inr rfl) (hf : X.fn x = true ∨ X.env.scope.names.lookup x = some .local := by first | exact .inl rfl | exact .inr rfl)
    (hs : (assignEach (.Name x pos :: tgs) X.env).map (·.2) = assign (.Name x pos) X.env :: (assignEach tgs X.env).map (·.2) := by rfl) : SNm X (.Name x pos :: tgs) (i :: is) (gCons (gName i) t) := by
  refine ⟨pgs_cons (pg_name hN hi hx hf) h.p hs, fun vs σ H Q hl q => ?_, by rw [List.length_cons, h.l, List.length_cons]⟩
  cases vs with
  | nil => cases hl
  | cons v vs => exact ⟨v, vs, rfl, h.o vs _ H Q (by simpa using hl) q⟩
/-- a, b, .. = x, y, .. by a tuple (names that a comprehension captures; four and more) -/
theorem ss_parT {tgs : List Expr} {is : List Nat} {t : TGs} {kt k2 : Nat} {pt pt2 pos : Pos} (hc : X.calm = true) (hg : SNm X tgs is t) (ha : SB X C es gb fb) (hlen : es.length = tgs.length := by rfl) (hz : es.length ≤ 1000 := by decide)
    (hn : (assignEach tgs X.env).length = tgs.length := by rfl) (hst : (assignEach tgs X.env).findIdx? (·.1) = none := by rfl)
    (hs : swapsWithSole [.Tuple tgs kt pt] (.Tuple es k2 pt2) pos.line X.env = pure false := by rfl) (hw : swappedStores [.Tuple tgs kt pt] (.Tuple es k2 pt2) X.env = pure none := by rfl)
    (h1 : (assignEach [.Tuple tgs kt pt] X.env).map (·.2) = [assign (.Tuple tgs kt pt) X.env] := by rfl) :
    SS X C (.Assign [.Tuple tgs kt pt] (.Tuple es k2 pt2) pos) (tAsg (tTup gb) (gTup X.K tgs.length t)) (sPar is fb) := by
  refine ⟨ps_asg (pe_tup ha.p) (pg_tup hc hg.p hn hst) hs hw h1, fun Hk H σ ρ r rl e D hn hr => ?_⟩
  obtain ⟨ss, e1, e⟩ := Option.bind_eq_some_iff.mp (show (fb ρ).bind _ = some r from e)
  cases e
  have h2 : ss.length = es.length := ha.o.1 ρ ss e1
  refine ha.o.2 Hk H σ ρ ss rl e1 _ fun vs Hk1 H1 n1 r1 => ?_
  have hv : vs.length = es.length := r1.length.trans h2
  refine ⟨by rw [hv]; exact small_len hz, fun p hp => ?_⟩
  refine ⟨p, vs, rfl, SqT.of upd_same, hv.trans hlen, hg.o vs σ _ _ (by rw [hv, hlen, hg.l]) ?_⟩
  have n2 : Nx Hk1 H1 Hk1 (upd H1 p (.tup vs)) := Nx.own n1.kh hp
  have r2 : BL C H Hk1 (upd H1 p (.tup vs)) ss vs := by
    have all : ∀ {ss : List Sl} {ws : List V}, BL C H Hk1 H1 ss ws → BL C H Hk1 (upd H1 p (.tup vs)) ss ws := by
      intro ss
      induction ss with
      | nil => intro ws h; exact h
      | cons s ss ih =>
        intro ws h
        obtain ⟨v, t, e, h1, h2, h3⟩ := h
        refine ⟨v, t, e, ?_, h2, ih h3⟩
        cases s with
        | no => exact h1
        | fz d => exact h1
        | ow ds =>
          obtain ⟨q, xs, e', k0, k1, k2, k3⟩ := h1
          exact ⟨q, xs, e', k0, k1, n2.hh _ _ k2, k3⟩
    exact all r1
  obtain ⟨k1, k2⟩ := par_end (n := es.length) (is := is) rl (n1.trans n2) r2 (by rw [h2, hlen, hg.l])
  exact hn _ rfl _ Hk1 _ k1 k2
end
end L3
set_option maxHeartbeats 4000000
namespace L3
open PySem L2 RZ

/-! ### the program's text by places -/
def top (i : Nat) : Stmt := PySem.Challenge.pw_formworld_k71_whole_one_truth_of_what_cl.main.body.getD i (.Pass ⟨0, 0, 0, 0⟩)
abbrev dg (i : Nat) (x : Str) (dfl : List He.Dv) : He.DefD := ⟨(x, none), x, x, defArgs (top i), defBody (top i), defScope (top i), dfl, []⟩
def fn0 : List He.DefD := [dg 17 "is_integer" [], dg 18 "is_between" [], dg 27 "common_divisor" [], dg 28 "common_of" [], dg 29 "root_of" [], dg 30 "is_square" [], dg 31 "divisors_of" [], dg 33 "unit_table" [], dg 34 "applied" [], dg 35 "turned" [], dg 36 "joined_tables" [], dg 37 "around" []]
def fn1 : List He.DefD := [dg 38 "determinant" [], dg 39 "lessened" [], dg 40 "inverse_of" [], dg 41 "cofactor" [], dg 42 "fraction" [], dg 43 "diagonal" [], dg 44 "behind" [], dg 45 "with_lead" [], dg 46 "exchanged" [], dg 52 "pairs_of" [], dg 53 "table_for" [], dg 54 "coefficients_for" []]
def fn2 : List He.DefD := [dg 56 "is_row" [], dg 57 "check_change" [], dg 58 "check_coefficients" [], dg 59 "first_beyond" [], dg 60 "form_of" [], dg 61 "signature_for" [], dg 62 "kind_for" [], dg 64 "check_form" [], dg 66 "is_discriminant" [], dg 67 "discriminant_for" [], dg 68 "is_binary" [], dg 69 "check_binary" []]
def fn3 : List He.DefD := [dg 70 "check_primitive" [], dg 71 "is_reduced_form" [], dg 72 "stepped" [], dg 73 "reduced_with" [], dg 74 "ring_from" [], dg 75 "ring_of" [], dg 76 "lead_of" [], dg 77 "change_to" [], dg 79 "check_discriminant" [], dg 80 "reduced_forms" [.bl false], dg 81 "class_list" [], dg 82 "forms_with" []]
def fn4 : List He.DefD := [dg 83 "classes" [], dg 84 "classes_giving" [], dg 86 "first_pair" [], dg 87 "united" [], dg 88 "unit_for" [], dg 89 "turn_for" [], dg 90 "check_turned" [], dg 91 "turn" [], dg 94 "check_number" [], dg 95 "lines_at" [], dg 96 "box_of" [], dg 97 "square_parts" []]
def fn5 : List He.DefD := [dg 98 "starts_of" [], dg 99 "is_given" [], dg 100 "weight_of" [], dg 101 "settled" [], dg 102 "family_list" [], dg 103 "is_solved" [], dg 104 "solutions_in_box" [], dg 105 "families" [], dg 107 "_law_well" [], dg 108 "_law_dip" [], dg 109 "_law_d" [], dg 110 "_law_root" []]
def fn6 : List He.DefD := [dg 111 "_law_is_whole" [], dg 112 "_law_gcd" [], dg 113 "_law_change" [], dg 114 "_law_rests" [], dg 115 "_law_proper" [], dg 116 "_law_owned" [], dg 117 "_law_squares" [], dg 118 "_law_one_right" [], dg 119 "_law_drawn_whole" [], dg 120 "_law_right" [], dg 121 "law" []]
def fn : List He.DefD := fn0 ++ fn1 ++ fn2 ++ fn3 ++ fn4 ++ fn5 ++ fn6
abbrev CF (K : PySem.W.Frag) : Addr := He.ga K "Form"
/-! ### the class's defs -/
def clBody : Stmt → List Stmt
  | .ClassDef _ _ _ body _ _ _ _ _ _ _ => body
  | _ => []
def mtd (i : Nat) : Stmt := (clBody (top 63)).getD i (.Pass ⟨0, 0, 0, 0⟩)
/-- the getter of a property of Form -/
def getA (m : Str) (K : PySem.W.Frag) : Addr := match PySem.W.recIn K (He.ma K (CF K) m) "property" with
  | some (.ref g :: _) => g
  | _ => 0
def mtA (m : Str) (K : PySem.W.Frag) : Addr := He.ma K (CF K) m
structure DefX where
  ad : PySem.W.Frag → Addr
  name : Str
  qual : Str
  params : Arguments
  body : List Stmt
  scope : Scope
def fnX (K : PySem.W.Frag) (g : Addr) : He.FnW := match K.lookup g with
  | some ⟨_, _, .func fd, _⟩ => some (fd.name, fd.qualname, fd.params, fd.body, fd.scope, fd.globals, fd.closure, fd.builtins)
  | _ => none
def DefX.val (d : DefX) : He.FnW := some (d.name, d.qual, d.params, .stmts d.body, d.scope, mainGlobals, [], builtinsNs)
def DefX.ok (K : PySem.W.Frag) (d : DefX) : Bool := PySem.W.keepIn K (.ref (d.ad K)) && (match K.lookup (d.ad K) with
  | some ⟨_, _, .func fd, _⟩ => PySem.W.codeIn K fd.code d.qual && (He.dflB K fd.defaults [] && He.kwdB K fd.kwdefaults [])
  | _ => false)
theorem DefX.funD {K : PySem.W.Frag} {d : DefX} (e : fnX K (d.ad K) = d.val) (c : d.ok K = true) : ∃ fd, FunD K d.name d.qual d.params d.body d.scope [] [] (d.ad K) fd := by
  obtain ⟨kp, c2⟩ := He.ba c
  unfold fnX at e
  cases q : K.lookup (d.ad K) with
  | none =>
    rw [q] at c2
    cases c2
  | some o =>
    obtain ⟨oc, od, dt, osl⟩ := o
    rw [q] at c2 e
    cases dt with
    | func fd =>
      obtain ⟨n1, n2, n3, n4, n5, n6, n7, n8, n9, n10, n11, n12, n13, n14, n15⟩ := fd
      have e2 : (some (n1, n2, n3, n4, n5, n6, n7, n15) : He.FnW) = some (d.name, d.qual, d.params, .stmts d.body, d.scope, mainGlobals, [], builtinsNs) := e
      simp only [Option.some.injEq, Prod.mk.injEq] at e2
      obtain ⟨h1, h2, h3, h4, h5, h6, h7, h8⟩ := e2
      subst h1 h2 h3 h4 h5 h6 h7 h8
      have c3 : (PySem.W.codeIn K n13 d.qual && (He.dflB K n8 [] && He.kwdB K n9 [])) = true := c2
      obtain ⟨k1, k2⟩ := He.ba c3
      obtain ⟨k3, k4⟩ := He.ba k2
      exact ⟨_, ⟨oc, od, n8, n9, n10, n11, n12, n13, n14, osl, rfl, q, k1, He.dflB_ok k3, He.kwdB_ok k4⟩, kp⟩
    | _ => cases c2
abbrev dx (ad : PySem.W.Frag → Addr) (x q : Str) (i : Nat) : DefX := ⟨ad, x, q, defArgs (mtd i), defBody (mtd i), defScope (mtd i)⟩
def cn : List DefX := [dx (mtA "__init__") "__init__" "Form.__init__" 0, dx (getA "coefficients") "coefficients" "Form.coefficients" 2, dx (getA "unknowns") "unknowns" "Form.unknowns" 3, dx (getA "content") "content" "Form.content" 8, dx (mtA "changed") "changed" "Form.changed" 13, dx (mtA "__eq__") "__eq__" "Form.__eq__" 16]
/-! ### the table UNKNOWNS -/
def entB (e : DictEntry) (k v : Int) : Bool := decide (e.hash = k) && (Value.isInt k e.key && Value.isInt v e.val)
def unkB (K : PySem.W.Frag) : Bool := !(He.ga K "UNKNOWNS" == sysModules) && (match K.lookup (He.ga K "UNKNOWNS") with
  | some ⟨.type "dict", none, .dict es _, sl⟩ => decide (sl.size = 0) && (match es.toList with
    | [e1, e2, e3, e4] => entB e1 3 2 && (entB e2 6 3 && (entB e3 10 4 && entB e4 15 5))
    | _ => false)
  | _ => false)
structure UnkOk (K : PySem.W.Frag) (mg : Str → Option Value) : Prop where
  mg : mg "UNKNOWNS" = some (.ref (He.ga K "UNKNOWNS"))
  un : unkB K = true
/-! ### the class's facts -/
def prB (K : PySem.W.Frag) (m : Str) : Bool := He.eqO (PySem.W.findIn K (.ref (CF K)) m) (some (some (.ref (mtA m K)))) && (He.eqO (PySem.W.specialIn K (.ref (mtA m K)) "__get__") (some (some (.builtin "property.__get__"))) && (decide (PySem.W.takesIn K (.ref (mtA m K)) = some true) &&
  (match PySem.W.recIn K (mtA m K) "property" with
  | some (.ref _ :: _) => true
  | _ => false)))
theorem prB_ok {K : PySem.W.Frag} {m : Str} (h : prB K m = true) : PropOf K (CF K) m (mtA m K) (getA m K) := by
  obtain ⟨h1, h⟩ := He.ba h
  obtain ⟨h2, h⟩ := He.ba h
  obtain ⟨h3, h⟩ := He.ba h
  refine ⟨He.eqO_ok h1, He.eqO_ok h2, of_decide_eq_true h3, ?_⟩
  unfold getA
  show ∃ rest, PySem.W.recIn K (mtA m K) "property" = some (.ref (match PySem.W.recIn K (mtA m K) "property" with | some (.ref g :: _) => g | _ => 0) :: rest)
  split at h
  · rename_i g rest e
    rw [e]
    exact ⟨_, rfl⟩
  · cases h
def clB (K : PySem.W.Frag) : Bool := prB K "coefficients" && (prB K "unknowns" && (prB K "content" && (He.eqO (PySem.W.findIn K (.ref (CF K)) "__ne__") (some (some (.builtin "object.__ne__"))) && (decide (PySem.W.mroIn K (CF K) (.type "object") = some true) &&
  (He.eqO (PySem.W.findIn K (.ref (CF K)) "__class__") (some (some (.builtin "object.__class__"))) && (He.eqO (PySem.W.specialIn K (.builtin "object.__class__") "__get__") (some (some (.builtin "getset_descriptor.__get__"))) && (decide (PySem.W.takesIn K (.builtin "object.__class__") = some true) &&
  (decide (PySem.W.kitOne K (.ref (CF K)) (.ref (CF K)) = some true) && unkB K))))))))
structure ClOk (K : PySem.W.Frag) (mg : Str → Option Value) : Prop where
  mg : mg "Form" = some (.ref (CF K))
  cl : Cls K (CF K)
  mkf : Mk K (CF K) (mtA "__init__" K)
  ch : Meth K (CF K) "changed" (mtA "changed" K)
  eq : Meth K (CF K) "__eq__" (mtA "__eq__" K)
  ne : PySem.W.findIn K (.ref (CF K)) "__ne__" = some (some (.builtin "object.__ne__"))
  ob : PySem.W.mroIn K (CF K) (.type "object") = some true
  ic : C8.InsC K (CF K)
  p1 : PropOf K (CF K) "coefficients" (mtA "coefficients" K) (getA "coefficients" K)
  p2 : PropOf K (CF K) "unknowns" (mtA "unknowns" K) (getA "unknowns" K)
  p3 : PropOf K (CF K) "content" (mtA "content" K) (getA "content" K)
  n1 : NoAttr K (CF K) "held"
  n2 : NoAttr K (CF K) "words"
theorem clOk {K : PySem.W.Frag} {m : Str → Option Value} (hm : m "Form" = some (.ref (CF K))) (cl : Cls K (CF K)) (mk : Mk K (CF K) (mtA "__init__" K)) (ch : Meth K (CF K) "changed" (mtA "changed" K)) (eq : Meth K (CF K) "__eq__" (mtA "__eq__" K)) (n1 : NoAttr K (CF K) "held") (n2 : NoAttr K (CF K) "words") (h : clB K = true) : ClOk K m := by
  obtain ⟨h1, h⟩ := He.ba h
  obtain ⟨h2, h⟩ := He.ba h
  obtain ⟨h3, h⟩ := He.ba h
  obtain ⟨h4, h⟩ := He.ba h
  obtain ⟨h5, h⟩ := He.ba h
  obtain ⟨h6, h⟩ := He.ba h
  obtain ⟨h7, h⟩ := He.ba h
  obtain ⟨h8, h⟩ := He.ba h
  obtain ⟨h9, h⟩ := He.ba h
  exact ⟨hm, cl, mk, ch, eq, He.eqO_ok h4, of_decide_eq_true h5, ⟨cl, He.eqO_ok h6, He.eqO_ok h7, of_decide_eq_true h8, of_decide_eq_true h5, of_decide_eq_true h9⟩, prB_ok h1, prB_ok h2, prB_ok h3, n1, n2⟩
theorem clB_unk {K : PySem.W.Frag} (h : clB K = true) : unkB K = true := by
  unfold clB at h
  simp only [Bool.and_eq_true] at h
  exact h.2.2.2.2.2.2.2.2.2
/-- what the top has written -/
structure Wf (K : PySem.W.Frag) (mg : Str → Option Value) : Prop where
  d : ∀ (i : Nat) {d : He.DefD}, fn[i]? = some d → ∃ fd, FunD K d.name d.qual d.params d.body d.scope (d.dvs K) (d.kws K) (He.fAd K d.at_) fd
  g : ∀ (i : Nat) {d : He.DefD}, fn[i]? = some d → mg d.name = some (.ref (He.fAd K d.at_))
  c : ∀ (i : Nat) {d : DefX}, cn[i]? = some d → ∃ fd, FunD K d.name d.qual d.params d.body d.scope [] [] (d.ad K) fd
  cl : ClOk K mg
  un : UnkOk K mg
  b_abs : mg "abs" = none
  b_all : mg "all" = none
  b_any : mg "any" = none
  b_bool : mg "bool" = none
  b_divmod : mg "divmod" = none
  b_enumerate : mg "enumerate" = none
  b_int : mg "int" = none
  b_isinstance : mg "isinstance" = none
  b_len : mg "len" = none
  b_list : mg "list" = none
  b_max : mg "max" = none
  b_min : mg "min" = none
  b_range : mg "range" = none
  b_set : mg "set" = none
  b_sorted : mg "sorted" = none
  b_str : mg "str" = none
  b_sum : mg "sum" = none
  b_tuple : mg "tuple" = none
  b_zip : mg "zip" = none
  int_MOST_SIZE : ∃ t, mg "MOST_SIZE" = some (.int (1000000000000) t)
  int_LEAST_DISCRIMINANT : ∃ t, mg "LEAST_DISCRIMINANT" = some (.int (-100000) t)
  int_MOST_DISCRIMINANT : ∃ t, mg "MOST_DISCRIMINANT" = some (.int (1000) t)
  int_MOST_NUMBER : ∃ t, mg "MOST_NUMBER" = some (.int (1000) t)
  int_MOST_PASSED : ∃ t, mg "MOST_PASSED" = some (.int (1000000000000000000000000000000000000000000000000000000000000000000000000000) t)
  int_MOST_BOX : ∃ t, mg "MOST_BOX" = some (.int (1000) t)
section
variable {P : Program} {w : World} {K : PySem.W.Frag} {mg : Str → Option Value} {base : Heap} {C : Addr} {x qual : Str} {params : Arguments} {body : List Stmt} {scope : Scope} {kws : List (Str × V)} {f : Addr} {fd : FuncData} {ps : List Str} {k n : Nat} {G : List Dat → Option Dat}
theorem defok (F : FunD K x qual params body scope [] kws f fd) (Fk : FnOk P w K mg base CX0 k f fd ps (SpF C n G)) (hm : mg x = some (.ref f)) (hb : Binds K fd ps []) : DefOk P w K mg base C k x n G :=
  ⟨f, fd, ps, [], [], [], G, Fk, hm, F.kp, hb, .nil, fun _ => rpl_nil, by funext as; rw [List.append_nil]⟩
end
end L3
set_option maxHeartbeats 0
namespace L3
open PySem PySem.W PySem.Spec PyProof.Rows L2
def faO : List He.Fa := [.free "abs", .free "all", .free "any", .free "bool", .free "divmod", .free "enumerate", .free "int", .free "isinstance", .free "len", .free "list", .free "max", .free "min", .free "range", .free "set", .free "sorted", .free "str", .free "sum", .free "tuple", .free "zip", .int "MOST_SIZE" (1000000000000), .int "LEAST_DISCRIMINANT" (-100000), .int "MOST_DISCRIMINANT" (1000), .int "MOST_NUMBER" (1000), .int "MOST_PASSED" (1000000000000000000000000000000000000000000000000000000000000000000000000000), .int "MOST_BOX" (1000), .glo "Form", .glo "UNKNOWNS", .cls "Form", .mkr "Form", .meth "Form" "changed", .meth "Form" "__eq__", .noat "Form" "held", .noat "Form" "words"]
def fa : List He.Fa := faO ++ fn.map fun d => He.Fa.glo d.name
def obsL (K : PySem.W.Frag) : He.AlD × (Bool × List He.FnW) := (He.obsD fa fn K, (clB K && cn.all fun d => d.ok K, cn.map fun d => fnX K (d.ad K)))
def valL : He.AlD × (Bool × List He.FnW) := (He.valD fn, (true, cn.map DefX.val))
/-- what a def names -/
def exF (g : Addr → Option Obj) (a : Addr) : List Addr := match g a with
  | some o => (match o.data with
    | .func fd => He.refV fd.code ++ He.refV fd.defaults
    | _ => [])
  | none => []
/-- what stands in a class's body, in a property -/
def exM (g : Addr → Option Obj) (a : Addr) : List Addr := match g a with
  | some o => (match o.data with
    | .func fd => He.refV fd.code ++ He.refV fd.defaults
    | .fields vs => vs.toList.flatMap He.refV
    | _ => [])
  | none => []
def exO (g : Addr → Option Obj) (a : Addr) : List Addr := match g a with
  | some o => He.refsO o
  | none => []
def exC (g : Addr → Option Obj) (a : Addr) : List Addr := match g a with
  | some o => (match o.dict with
    | some d => [d]
    | none => []) ++ (match o.data with
    | .cls cd => [cd.ns]
    | _ => [])
  | none => []
/-- where the facts stand -/
def asL (g : Addr → Option Obj) : List Addr :=
  let v := exO g mainGlobals
  let c := exC g (He.ga (He.frG g [mainGlobals]) "Form")
  let m := c.flatMap (exO g)
  let p := m.flatMap (exM g)
  mainGlobals :: (v ++ (c ++ (m ++ (p ++ (p.flatMap (exF g) ++ v.flatMap (exF g))))))
def obsLG (g : Addr → Option Obj) : He.AlD × (Bool × List He.FnW) := obsL (He.frG g (asL g))
def hkL : PySem.W.Hook where
  α := He.AlD × (Bool × List He.FnW)
  obs := fun s => obsLG s.heap.get?
  val := fun _ => valL
  says := fun _ h => ∃ K : PySem.W.Frag, K.In h ∧ obsL K = valL
  of := fun _ _ e => ⟨_, He.frG_in, e⟩
  keeps := fun _ _ _ ⟨K, hK, c⟩ k => ⟨K, PySem.W.Frag.In.keeps hK k, c⟩
theorem obsLG_eq {g : Addr → Option Obj} {s : Shared} (h : ∀ a, g a = s.heap.get? a) : obsLG g = hkL.obs s := by
  have e : g = s.heap.get? := funext h
  rw [e] <;> rfl
def obL (s : PySem.W.SharedT) : He.AlD × (Bool × List He.FnW) := obsLG (HandSHeadRun.getT s)
theorem obL_eq (s : PySem.W.SharedT) : obL s = hkL.obs s.abs := obsLG_eq (HandSHeadRun.getT_eq s)
def names0 : List PySem.Str := (["_wall", "WrongValue", "InvalidText", "InvalidNumber", "InvalidDiscriminant", "NotAForm", "NotBinary", "InvalidCoefficients", "InvalidVector", "InvalidChange", "NoAnswer", "NotMixed", "NotPrimitive", "TooGreat", "DIGITS", "is_integer"] : List PySem.Str)
def names1 : List PySem.Str := (["is_between", "number_in", "integer_in", "MOST_SIZE", "LEAST_DISCRIMINANT", "MOST_DISCRIMINANT", "MOST_NUMBER", "MOST_PASSED", "common_divisor", "common_of", "root_of", "is_square", "divisors_of", "unit_table", "applied", "turned"] : List PySem.Str)
def names2 : List PySem.Str := (["joined_tables", "around", "determinant", "lessened", "inverse_of", "cofactor", "fraction", "diagonal", "behind", "with_lead", "exchanged", "summed", "added", "plus", "UNKNOWNS", "pairs_of"] : List PySem.Str)
def names3 : List PySem.Str := (["table_for", "coefficients_for", "check_vector", "is_row", "check_change", "check_coefficients", "first_beyond", "form_of", "signature_for", "kind_for", "Form", "check_form", "is_discriminant", "discriminant_for", "is_binary", "check_binary"] : List PySem.Str)
def names4 : List PySem.Str := (["check_primitive", "is_reduced_form", "stepped", "reduced_with", "ring_from", "ring_of", "lead_of", "change_to", "check_discriminant", "reduced_forms", "class_list", "forms_with", "classes", "classes_giving", "first_pair", "united"] : List PySem.Str)
def names5 : List PySem.Str := (["unit_for", "turn_for", "check_turned", "turn", "MOST_BOX", "check_number", "lines_at", "box_of", "square_parts", "starts_of", "is_given", "weight_of", "settled", "family_list", "is_solved", "solutions_in_box"] : List PySem.Str)
def names6 : List PySem.Str := (["families", "_law_well", "_law_dip", "_law_d", "_law_root", "_law_is_whole", "_law_gcd", "_law_change", "_law_rests", "_law_proper", "_law_owned", "_law_squares", "_law_one_right", "_law_drawn_whole", "_law_right"] : List PySem.Str)
def names : List Str := names0 ++ names1 ++ names2 ++ names3 ++ names4 ++ names5 ++ names6
abbrev RL : PySem.W.OpenRow := PySem.W.OpenLaw.row PySem.Challenge.rw_formworld_k71_whole_one_truth_of_what_cl
theorem both {α β γ δ : Type} {E : Option α} {f : α → β} {g : α → γ} {h : α → δ} {b : β} {c : γ} {d : δ} (h1 : E.map (fun s => (f s, g s)) = some (b, c)) (h2 : E.map h = some d) : E.map (fun s => (f s, g s, h s)) = some (b, c, d) := by
  cases E with
  | none => cases h1
  | some s =>
    have e1 : (f s, g s) = (b, c) := Option.some.inj h1
    have e2 : h s = d := Option.some.inj h2
    simp only [Prod.mk.injEq] at e1
    show some (f s, g s, h s) = _
    rw [e1.1, e1.2, e2]
abbrev EA (w : World) (os : OsState) : Prop := (HandSHeadRun.endF (HandSHeadRun.stepQ (HandSHeadRun.denQ HandSHeadRun.tabQ) RL.prog w) 20000 RL.prog w os).map (fun s => (HandSHeadRun.looksF RL.prog (boot_heap w.params) s.abs, HandSHeadRun.seenQ (PySem.W.view RL.prog [121]) names (importedModules RL.prog.main.body) (fun s => PySem.W.xlAt (PySem.W.view RL.prog [121]) [] s && PySem.W.recOk RL.toRowW.records s) s.abs)) = some (true, PySem.W.openGood (PySem.W.view RL.prog [121]) names)
abbrev EB (w : World) (os : OsState) : Prop := (HandSHeadRun.endF (HandSHeadRun.stepQ (HandSHeadRun.denQ HandSHeadRun.tabQ) RL.prog w) 20000 RL.prog w os).map (fun s => obL s) = some valL
theorem eaF (w : World) (os : OsState) : EA (w.withFollow "special-get-raises" false) os := by kernel_rfl
theorem eaT (w : World) (os : OsState) : EA (w.withFollow "special-get-raises" true) os := by kernel_rfl
theorem ebF (w : World) (os : OsState) : EB (w.withFollow "special-get-raises" false) os := by kernel_rfl
theorem ebT (w : World) (os : OsState) : EB (w.withFollow "special-get-raises" true) os := by kernel_rfl
theorem runL (w : World) : HandSHeadRun.RunEq RL (PySem.W.view RL.prog [121]) hkL obL 20000 names w :=
  PySem.W.byRow2 "special-get-raises" (fun w os => both (eaF w os) (ebF w os)) (fun w os => both (eaT w os) (ebT w os)) w
/-- what the top has written -/
theorem wf_of {K : PySem.W.Frag} {h : Heap} {mg : Str → Option Value} (X : K.In h) (G : h.Ns mainGlobals mg) (e : obsL K = valL) : Wf K mg := by
  have c : He.SaysD fa fn K := congrArg (fun z : He.AlD × (Bool × List He.FnW) => z.1) e
  have e2 : (clB K && cn.all fun d => d.ok K) = true := congrArg (fun z : He.AlD × (Bool × List He.FnW) => z.2.1) e
  have e3 : cn.map (fun d => fnX K (d.ad K)) = cn.map DefX.val := congrArg (fun z : He.AlD × (Bool × List He.FnW) => z.2.2) e
  obtain ⟨hcl, hcn⟩ := He.ba e2
  have fct : ∀ (i : Nat) {f : He.Fa}, faO[i]? = some f → f.ok K = true := fun i {f} hf => c.fact i (f := f) (by
    show (faO ++ _)[i]? = some f
    rw [List.getElem?_append_left (List.getElem?_eq_some_iff.mp hf).1]
    exact hf)
  exact {
    d := fun i {d} hd => c.def_ i hd
    g := fun i {d} hd => by
      have : (He.Fa.glo d.name).ok K = true := He.SaysD.facts c (by
        refine List.mem_append_right _ (List.mem_map.mpr ⟨d, List.mem_of_getElem? hd, rfl⟩))
      have q := He.glo_ok X G this
      have z : He.fAd K d.at_ = He.ga K d.name := by
        have hm : fn.all (fun d => decide (d.at_.1 = d.name) && d.at_.2.isNone) = true := by decide +kernel
        have := List.all_eq_true.mp hm d (List.mem_of_getElem? hd)
        rw [Bool.and_eq_true] at this
        have h1 := of_decide_eq_true this.1
        have h2 := Option.isNone_iff_eq_none.mp this.2
        unfold He.fAd
        rw [h2, h1]
      rw [z]; exact q
    c := fun i {d} hd => by
      have h1 : (cn.map fun d => fnX K (d.ad K))[i]? = (cn.map DefX.val)[i]? := by rw [e3]
      rw [List.getElem?_map, List.getElem?_map, hd] at h1
      exact DefX.funD (Option.some.inj h1) (List.all_eq_true.mp hcn d (List.mem_of_getElem? hd))
    cl := clOk (He.glo_ok X G (fct 25 rfl)) (He.cls_ok (fct 27 rfl)) (He.mkr_ok (fct 28 rfl)) (He.meth_ok (fct 29 rfl)) (He.meth_ok (fct 30 rfl)) (He.noat_ok (fct 31 rfl)) (He.noat_ok (fct 32 rfl)) hcl
    un := ⟨He.glo_ok X G (fct 26 rfl), clB_unk hcl⟩
    b_abs := He.free_ok X G (fct 0 rfl)
    b_all := He.free_ok X G (fct 1 rfl)
    b_any := He.free_ok X G (fct 2 rfl)
    b_bool := He.free_ok X G (fct 3 rfl)
    b_divmod := He.free_ok X G (fct 4 rfl)
    b_enumerate := He.free_ok X G (fct 5 rfl)
    b_int := He.free_ok X G (fct 6 rfl)
    b_isinstance := He.free_ok X G (fct 7 rfl)
    b_len := He.free_ok X G (fct 8 rfl)
    b_list := He.free_ok X G (fct 9 rfl)
    b_max := He.free_ok X G (fct 10 rfl)
    b_min := He.free_ok X G (fct 11 rfl)
    b_range := He.free_ok X G (fct 12 rfl)
    b_set := He.free_ok X G (fct 13 rfl)
    b_sorted := He.free_ok X G (fct 14 rfl)
    b_str := He.free_ok X G (fct 15 rfl)
    b_sum := He.free_ok X G (fct 16 rfl)
    b_tuple := He.free_ok X G (fct 17 rfl)
    b_zip := He.free_ok X G (fct 18 rfl)
    int_MOST_SIZE := He.int_ok X G (fct 19 rfl)
    int_LEAST_DISCRIMINANT := He.int_ok X G (fct 20 rfl)
    int_MOST_DISCRIMINANT := He.int_ok X G (fct 21 rfl)
    int_MOST_NUMBER := He.int_ok X G (fct 22 rfl)
    int_MOST_PASSED := He.int_ok X G (fct 23 rfl)
    int_MOST_BOX := He.int_ok X G (fct 24 rfl)
  }
end L3
set_option maxHeartbeats 4000000
namespace L3
open PySem L2 RZ

/-! ### isinstance with a built-in type -/
inductive Ty where
  | int | bool | tuple | str
def Ty.nm : Ty → String
  | .int => "int" | .bool => "bool" | .tuple => "tuple" | .str => "str"
def dIsi (T : Ty) : Dat → Option Dat
  | .int _ => some (.bl (match T with | .int => true | _ => false))
  | .bl _ => some (.bl (match T with | .int => true | .bool => true | _ => false))
  | .tup _ => some (.bl (match T with | .tuple => true | _ => false))
  | _ => none
def tyN : Dat → Option String
  | .int _ => some "int"
  | .bl _ => some "bool"
  | .tup _ => some "tuple"
  | _ => none
section
variable {C : Addr} {X : Cx} {e a b c o : Expr} {es : List Expr} {pos p p2 p3 : Pos} {f fa fb fc fd : En → Option Dat} {la lb : En → Option (List Dat)} {ua ub uc ud ue : TE} {ga gb : TA} {tg iter : Expr}
theorem isi_ty {Hk H : Hp} {d : Dat} {x : V} {n : String} (hl : Le Hk H) (r : Rp C Hk d x) (h : tyN d = some n) (K : PySem.W.Frag) : TyX K H x (.type n) := by
  cases d <;> simp only [tyN, reduceCtorEq] at h <;> cases h
  · rw [r.bl]; exact .base (.bl _)
  · rw [r.int]; exact .base (.int _)
  · obtain ⟨l, xs, rfl, h1, h2⟩ := r.tup
    exact .base (.tup (hl _ _ h1))
theorem isi_b {T : Ty} {d : Dat} {k : Dat} (h : dIsi T d = some k) : ∃ n b, tyN d = some n ∧ k = .bl b ∧ kitB n T.nm = some b := by
  cases d <;> simp only [dIsi, reduceCtorEq] at h <;> cases h
  · exact ⟨_, _, rfl, rfl, by cases T <;> decide +kernel⟩
  · exact ⟨_, _, rfl, rfl, by cases T <;> decide +kernel⟩
  · exact ⟨_, _, rfl, rfl, by cases T <;> decide +kernel⟩
theorem se_isi {x : Str} (hm : X.mg "isinstance" = none) (hx : X.mg x = none) (ha : SE X C a ua f) (T : Ty) (hv : bootBuiltins x = some (.type T.nm) := by decide +kernel) (hgx : Gl X x := by rfl) (hxn : x ≠ "__name__" := by decide) (hxd : (x == ("__debug__" : Str)) = false := by decide)
    (hg : Gl X "isinstance" := by rfl) (hs1 : starEach [a, .Name x p2] X.env = (false, eval a X.env) :: starEach [.Name x p2] X.env := by rfl) (hs2 : starEach [.Name x p2] X.env = [(false, eval (.Name x p2) X.env)] := by rfl)
    (hpl : (backTo pos (starEach [.Name x p2] X.env)).any (·.1) = false := by rfl) :
    SE X C (.Call (.Name "isinstance" p) [a, .Name x p2] [] pos) (tCB (rIsi X.K) (tCons ua (tCons (tC (.ty T.nm)) tNil))) (f1 (dIsi T) f) := by
  refine ⟨pe_callB call_isi hg hm (by decide +kernel) (pa_cons ha.p (pa_cons (pe_bltn hgx hx hv (v := .ty T.nm) rfl hxn hxd) pa_nil hs2) hs1) (by decide) (by decide) hs1 hpl, fun Hk H σ ρ d r e Q q => ?_⟩
  unfold f1 at e
  obtain ⟨y, e1, e⟩ := Option.bind_eq_some_iff.mp e
  obtain ⟨n, k, h1, rfl, h2⟩ := isi_b e
  refine ha.o Hk H σ ρ y r e1 _ fun v Hk1 H1 n1 r1 => ?_
  exact ⟨v, .ty T.nm, .type n, .type T.nm, k, rfl, .ty _, isi_ty n1.kh r1 h1 X.K, kit_ty h2, q _ Hk1 H1 n1 rp_bl⟩
/-! ### list(range(n)) -/
def fLrg (a : En → Option Dat) : En → Option (List Dat) := fun ρ => (a ρ).bind fun d => (intOf d).bind fun n => if 0 ≤ n ∧ n ≤ 100000 then some (irng 0 n) else none
theorem rgV_rp {Hk : Hp} (lo : Int) (n : Nat) : RpL C Hk ((List.range n).map fun i => Dat.int (lo + (i : Nat))) ((List.range n).map fun i => V.int (lo + (i : Nat))) := by
  generalize List.range n = l
  induction l with
  | nil => exact rpl_nil
  | cons x l ih => exact rpl_cons rp_int ih
theorem sl_listrg (hc : X.calm = true) (hm : X.mg "list" = none) (hr : X.mg "range" = none) (ha : SE X C a ua f) (hg : Gl X "list" := by rfl) (hgr : Gl X "range" := by rfl) (na : starEach [a] X.env = [(false, eval a X.env)] := by rfl)
    (nb : starEach [.Call (.Name "range" p2) [a] [] p3] X.env = [(false, eval (.Call (.Name "range" p2) [a] [] p3) X.env)] := by rfl) :
    SL X C (.Call (.Name "list" p) [.Call (.Name "range" p2) [a] [] p3] [] pos) (tLstRg (tRg1 ua)) (fLrg f) := by
  refine ⟨pe_listRg hc hg hm (prg_1 hgr hr ha.p na) nb, fun Hk H σ ρ ds r e Q q => ?_⟩
  unfold fLrg at e
  obtain ⟨y, e1, e⟩ := Option.bind_eq_some_iff.mp e
  obtain ⟨n, e2, e⟩ := Option.bind_eq_some_iff.mp e
  split at e
  · rename_i hn
    cases e
    cases y <;> simp only [intOf, reduceCtorEq] at e2
    cases e2
    refine ha.o Hk H σ ρ _ r e1 _ fun v Hk1 H1 n1 r1 => ?_
    refine ⟨n, r1.int, RgOk.of_le (by omega) (by omega) (by omega) (by omega), fun p hp => ?_⟩
    exact q p _ Hk1 _ (n1.trans (Nx.own n1.kh hp)) (n1.hh.free hp) (n1.kh.free hp) upd_same (rgV_rp 0 _)
  · cases e
/-! ### name = [..] on one line -/
theorem ss_lc {elt : Expr} {ifs : List Expr} {scope : Scope} {own : List (Str × Nat)} {spos py : Pos} {wi : TI} {g : TG} {tt : TT} {te : TE} {fi : En → Option (List Dat)} {gt : Dat → En → Option En} {ft : En → Option Bool} {fe : En → Option Dat} {ws : List Nat} {y : Str} (i : Nat)
    (hsw : swapsWith (.ListComp elt [⟨tg, iter, ifs, 0⟩] scope pos) (some (.Name y py)) spos.line X.env = pure true)
    (hc : X.calm = true) (hN : X.N.Nodup) (ok : BlkOk X.N X.env.scope scope own) (hws : ∀ j ∈ ws, j ∈ own.map (·.2)) (hi : SIw X C tg iter wi fi)
    (hg : ∀ (s : Shared) (H : Hp) (C' : Addr) (cl : List (Str × Addr)) (fp : List Addr), SG (X.blk s H scope (compEnvC scope cl C' X.env) fp) C tg ws g gt) (ht : ∀ (s : Shared) (H : Hp) (C' : Addr) (cl : List (Str × Addr)) (fp : List Addr), STs (X.blk s H scope (compEnvC scope cl C' X.env) fp) C ifs tt ft)
    (he : ∀ (s : Shared) (H : Hp) (C' : Addr) (cl : List (Str × Addr)) (fp : List Addr), SE (X.blk s H scope (compEnvC scope cl C' X.env) fp) C elt te fe) (hy : X.N[i]? = some y := by rfl) (hyl : X.env.scope.names.lookup y = some .local := by rfl) (hs : ∀ x, foldedSetIterable iter X.env x = pure x := by intro _; rfl) :
    SS X C (.Assign [.Name y py] (.ListComp elt [⟨tg, iter, ifs, 0⟩] scope pos) spos) (tAsg (tLc wi g tt te (own.map (·.2))) (gName i)) (sSet i (fLst (fLc fi gt ft fe (own.map (·.2))))) :=
  ⟨ps_setLc hc hN hy hyl hsw hi.p ok (fun s H C' cl fp => (hg s H C' cl fp).p) (fun s H C' cl fp => (ht s H C' cl fp).p) (fun s H C' cl fp => (he s H C' cl fp).p) hs,
    ok_set (by
      have h := ok_lc hws hi.o (hg X.s_0 X.H_0 0 [] []).o (ht X.s_0 X.H_0 0 [] []).o (he X.s_0 X.H_0 0 [] []).o
      exact (SL.se (X := X) (e := .ListComp elt [⟨tg, iter, ifs, 0⟩] scope pos) ⟨pe_lc hc hN hi.p ok (fun s H C' cl fp => (hg s H C' cl fp).p) (fun s H C' cl fp => (ht s H C' cl fp).p) (fun s H C' cl fp => (he s H C' cl fp).p) hs, h⟩).o)⟩
theorem ss_lcO {elt : Expr} {ifs : List Expr} {scope : Scope} {own : List (Str × Nat)} {spos py : Pos} {wi : TI} {g : TG} {tt : TT} {te : TE} {fi : En → Option (List Dat)} {gt : Dat → En → Option En} {ft : En → Option Bool} {fe : En → Option Dat} {ws : List Nat} {y : Str} (i : Nat)
    (hsw : swapsWith (.ListComp elt [⟨tg, iter, ifs, 0⟩] scope pos) (some (.Name y py)) spos.line X.env = pure true)
    (hc : X.calm = true) (hN : X.N.Nodup) (ok : BlkOk X.N X.env.scope scope own) (hws : ∀ j ∈ ws, j ∈ own.map (·.2)) (hi : SIw X C tg iter wi fi)
    (hg : ∀ (s : Shared) (H : Hp) (C' : Addr) (cl : List (Str × Addr)) (fp : List Addr), SG (X.blk s H scope (compEnvC scope cl C' X.env) fp) C tg ws g gt) (ht : ∀ (s : Shared) (H : Hp) (C' : Addr) (cl : List (Str × Addr)) (fp : List Addr), STs (X.blk s H scope (compEnvC scope cl C' X.env) fp) C ifs tt ft)
    (he : ∀ (s : Shared) (H : Hp) (C' : Addr) (cl : List (Str × Addr)) (fp : List Addr), SE (X.blk s H scope (compEnvC scope cl C' X.env) fp) C elt te fe) (hy : X.N[i]? = some y := by rfl) (hyl : X.env.scope.names.lookup y = some .local := by rfl) (hs : ∀ x, foldedSetIterable iter X.env x = pure x := by intro _; rfl) :
    SS X C (.Assign [.Name y py] (.ListComp elt [⟨tg, iter, ifs, 0⟩] scope pos) spos) (tAsg (tLc wi g tt te (own.map (·.2))) (gName i)) (sSetO i (fLc fi gt ft fe (own.map (·.2)))) :=
  ⟨ps_setLc hc hN hy hyl hsw hi.p ok (fun s H C' cl fp => (hg s H C' cl fp).p) (fun s H C' cl fp => (ht s H C' cl fp).p) (fun s H C' cl fp => (he s H C' cl fp).p) hs,
    ok_setO (ok_lc hws hi.o (hg X.s_0 X.H_0 0 [] []).o (ht X.s_0 X.H_0 0 [] []).o (he X.s_0 X.H_0 0 [] []).o)⟩
/-! ### an expression as a statement -/
def sExpr (f : En → Option Dat) : En → Option Fl := fun ρ => (f ρ).bind fun _ => some (.nx ρ)
theorem ss_expr (he : SE X C e ue f) (hs : swapsWith e none pos.line X.env = pure false := by rfl) : SS X C (.Expr e pos) (tDrop ue) (sExpr f) := by
  refine ⟨ps_expr he.p hs, fun Hk H σ ρ r rl e D hn hr => ?_⟩
  obtain ⟨d, e1, e⟩ := Option.bind_eq_some_iff.mp (show (f ρ).bind _ = some r from e)
  cases e
  exact he.o Hk H σ ρ d rl e1 _ fun v Hk1 H1 n1 r1 => hn ρ rfl σ Hk1 H1 n1.ns (rl.nx n1)
/-! ### a <= b <= c <= d -/
def tChain3 (r r' r'' : R2) (ta tb tc td : TE) : TE := fun σ H Q => ta σ H fun x H1 => tb σ H1 fun y H2 => r x y H2 fun z H3 => ∃ k, z = .bl k ∧
  (if k = true then tc σ H3 fun w' H4 => r' y w' H4 fun z' H5 => ∃ k', z' = .bl k' ∧ (if k' = true then td σ H5 fun u' H6 => r'' w' u' H6 Q else Q (.bl false) H5) else Q (.bl false) H3)
theorem pe_chain3 {d : Expr} {op op' op'' : CmpOp} {r r' r'' : R2} (ho : OpR X (compareOp op) r) (ho' : OpR X (compareOp op') r') (ho'' : OpR X (compareOp op'') r'') (ha : PE X a ua) (hb : PE X b ub) (hc : PE X c uc) (hd : PE X d ud)
    (hm : lastMarks [op, op', op''] [b, c, d] = false := by with_unfolding_all rfl) : PE X (.Compare a [op, op', op''] [b, c, d] pos) (tChain3 r r' r'' ua ub uc ud) := by
  refine ⟨fun pins s σ H Q I h => ?_⟩
  refine PyProof.Rows.Compare_chain (thn (ha.run pins s σ H _ I h) fun v s1 ⟨x, H1, I1, r1, q1⟩ => PyProof.Rows.chain_link (thn (hb.run pins s1 σ H1 _ I1 q1) fun u s2 ⟨y, H2, I2, r2, q2⟩ =>
    thn (ho pins s2 σ H2 x y v u _ I2 r1 r2 q2) fun d s3 ⟨z, H3, I3, r3, k, e, q3⟩ => ?_)) hm
  subst e
  cases r3
  refine wpAny_truthy_bool ?_
  cases k with
  | false => exact PyProof.Rows.ite_ff ⟨.bl false, H3, I3, rfl, q3⟩
  | true =>
    refine PyProof.Rows.ite_tt (PyProof.Rows.chain_link (thn (hc.run pins s3 σ H3 _ I3 q3) fun w' s4 ⟨z', H4, I4, r4, q4⟩ => thn (ho' pins s4 σ H4 y z' u w' _ I4 r2 r4 q4) fun d' s5 ⟨z5, H5, I5, r5, k', e', q5⟩ => ?_))
    subst e'
    cases r5
    refine wpAny_truthy_bool ?_
    cases k' with
    | false => exact PyProof.Rows.ite_ff ⟨.bl false, H5, I5, rfl, q5⟩
    | true => exact PyProof.Rows.ite_tt (PyProof.Rows.chain_last (thn (hd.run pins s5 σ H5 _ I5 q5) fun u' s6 ⟨z6, H6, I6, r6, q6⟩ => ho'' pins s6 σ H6 z' z6 w' u' Q I6 r4 r6 q6))
def fChain3 (a b c d : En → Option Dat) : En → Option Dat := fun ρ => (a ρ).bind fun x => (b ρ).bind fun y => (dLe x y).bind fun u => (blOf u).bind fun k => match k with
  | true => (c ρ).bind fun z => (dLe y z).bind fun u => (blOf u).bind fun k => match k with
    | true => (d ρ).bind fun t => dLe z t
    | false => some (.bl false)
  | false => some (.bl false)
theorem se_le_le_le {d : Expr} (ha : SE X C a ua fa) (hb : SE X C b ub fb) (hc : SE X C c uc fc) (hd : SE X C d ud fd) (hm : lastMarks [.LtE, .LtE, .LtE] [b, c, d] = false := by rfl) :
    SE X C (.Compare a [.LtE, .LtE, .LtE] [b, c, d] pos) (tChain3 (rI0 fun i j => .bl (decide (i ≤ j))) (rI0 fun i j => .bl (decide (i ≤ j))) (rI0 fun i j => .bl (decide (i ≤ j))) ua ub uc ud) (fChain3 fa fb fc fd) := by
  refine ⟨pe_chain3 op_le op_le op_le ha.p hb.p hc.p hd.p hm, fun Hk H σ ρ d rl e Q q => ?_⟩
  unfold fChain3 at e
  obtain ⟨x, e1, e⟩ := Option.bind_eq_some_iff.mp e
  obtain ⟨y, e2, e⟩ := Option.bind_eq_some_iff.mp e
  obtain ⟨u, e3, e⟩ := Option.bind_eq_some_iff.mp e
  obtain ⟨k, e4, e⟩ := Option.bind_eq_some_iff.mp e
  refine ha.o Hk H σ ρ x rl e1 _ fun v1 Hk1 H1 n1 r1 => ?_
  refine hb.o Hk1 H1 σ ρ y (rl.nx n1) e2 _ fun v2 Hk2 H2 n2 r2 => ?_
  refine okr_B0 Hk2 H2 v1 v2 x y u n2.kh (r1.mono n2.kk) r2 e3 _ fun v Hk3 H3 n3 r3 => ?_
  cases u <;> simp only [blOf, reduceCtorEq] at e4
  cases e4
  refine ⟨k, r3.bl, ?_⟩
  have n123 := (n1.trans n2).trans n3
  cases k with
  | true =>
    have e : (fc ρ).bind _ = some d := e
    obtain ⟨z, e5, e⟩ := Option.bind_eq_some_iff.mp e
    obtain ⟨u, e6, e⟩ := Option.bind_eq_some_iff.mp e
    obtain ⟨k, e7, e⟩ := Option.bind_eq_some_iff.mp e
    refine iteT (hc.o Hk3 H3 σ ρ z (rl.nx n123) e5 _ fun v4 Hk4 H4 n4 r4 => ?_)
    refine okr_B0 Hk4 H4 v2 v4 y z u n4.kh (r2.mono (n3.kk.trans n4.kk)) r4 e6 _ fun v5 Hk5 H5 n5 r5 => ?_
    cases u <;> simp only [blOf, reduceCtorEq] at e7
    cases e7
    refine ⟨k, r5.bl, ?_⟩
    have n15 := (n123.trans n4).trans n5
    cases k with
    | true =>
      have e : (fd ρ).bind (fun t => dLe z t) = some d := e
      obtain ⟨t, e8, e⟩ := Option.bind_eq_some_iff.mp e
      refine iteT (hd.o Hk5 H5 σ ρ t (rl.nx n15) e8 _ fun v6 Hk6 H6 n6 r6 => ?_)
      exact okr_B0 Hk6 H6 v4 v6 z t d n6.kh (r4.mono (n5.kk.trans n6.kk)) r6 e Q fun v7 Hk7 H7 n7 r7 => q v7 Hk7 H7 ((n15.trans n6).trans n7) r7
    | false => cases e; exact iteF (q _ Hk5 H5 n15 rp_bl)
  | false => cases e; exact iteF (q _ Hk3 H3 n123 rp_bl)
/-! ### x not in (1, -1) -/
def fNinT (a : En → Option Dat) (b : En → Option (List Dat)) : En → Option Dat := fun ρ => (a ρ).bind fun x => (b ρ).bind fun ys => (intOf x).bind fun i => (intsOf ys).bind fun ns => some (.bl (!ns.any fun j => decide (j = i)))
theorem ints_flat : ∀ ns : List Int, (ns.map V.int).all flatV = true
  | [] => rfl
  | n :: ns => ints_flat ns
theorem ints_inV (i : Int) : ∀ ns : List Int, inV (.int i) (ns.map V.int) = ns.any fun j => decide (j = i)
  | [] => rfl
  | n :: ns => by
    show (eqV (.int n) (.int i) || inV (.int i) (ns.map V.int)) = (decide (n = i) || ns.any fun j => decide (j = i))
    rw [ints_inV i ns]
    have : eqV (.int n) (.int i) = decide (n = i) := by
      show (n == i) = _
      by_cases q : n = i
      · rw [decide_eq_true q]; exact beq_iff_eq.mpr q
      · rw [decide_eq_false q]; exact beq_eq_false_iff_ne.mpr q
    rw [this]
theorem ok_ninT (ha : OkE C ua fa) (hb : OkA C es.length ga la) (hz : es.length ≤ 1000) : OkE C (tOp (rIn X.K true) ua (tTup ga)) (fNinT fa la) := fun Hk H σ ρ d r e Q q => by
  unfold fNinT at e
  obtain ⟨x, e1, e⟩ := Option.bind_eq_some_iff.mp e
  obtain ⟨ys, e2, e⟩ := Option.bind_eq_some_iff.mp e
  obtain ⟨i, e3, e⟩ := Option.bind_eq_some_iff.mp e
  obtain ⟨ns, e4, e⟩ := Option.bind_eq_some_iff.mp e
  cases e
  cases x <;> simp only [intOf, reduceCtorEq] at e3
  cases e3
  refine ha Hk H σ ρ _ r e1 _ fun v1 Hk1 H1 n1 r1 => ?_
  refine hb.2 Hk1 H1 σ ρ ys (r.nx n1) e2 _ fun vs Hk2 H2 n2 r2 => ?_
  have hl : vs.length = es.length := by rw [r2.length, hb.1 ρ ys e2]
  refine ⟨by rw [hl]; exact small_len hz, fun t ht => ?_⟩
  rw [intsOf_map e4] at r2
  have ev := r2.ints
  rw [ev]
  refine ⟨t, ns.map V.int, rfl, .inr (SqT.of upd_same), by rw [r1.int]; rfl, ints_flat ns, ?_⟩
  rw [r1.int, ints_inV]
  have n3 : Nx Hk2 H2 Hk2 (upd H2 t (.tup (ns.map V.int))) := Nx.own n2.kh ht
  exact q _ Hk2 _ ((n1.trans n2).trans n3) rp_bl
theorem st_ninT {x1 : Nat} {p1 : Pos} (ha : SE X C a ua fa) (hb : SA X C es ga la) (hz : es.length ≤ 1000 := by decide) : ST X C (.Compare a [.NotIn] [.Tuple es x1 p1] pos) (tTest (tOp (rIn X.K true) ua (tTup ga))) (fB (fNinT fa la)) :=
  ⟨pt_cmpR op_notIn_seq ha.p (pe_tup hb.p) rfl, ok_test (ok_ninT ha.o hb.o hz)⟩
end
end L3
set_option maxHeartbeats 4000000
namespace L3
open PySem L2 RZ

/-! ### enumerate(tuple) -/
/-- the tuple at a, each item in a new pair -/
def IteT (K : PySem.W.Frag) (a : Addr) : It :=
  ⟨fun i H => ∃ (xs : List V) (x : V), SqT K H a xs ∧ xs[i]? = some x, fun i H v H' => ∃ T x, v = .ref T ∧ H T = none ∧ H' = upd H T (.tup [.int (i : Nat), x]) ∧ ∀ xs, SqT K H a xs → xs[i]? = some x, fun i H => ∃ xs : List V, SqT K H a xs ∧ xs.length ≤ i⟩
theorem turn_enumT {P : Program} {w : World} {K : PySem.W.Frag} {elts : List Expr} {kk : Nat} {tpos : Pos} (a e it : Addr) :
    Turn P w K (.Tuple elts kk tpos) (IteT K a) [e, it] e (fun i h => (∃ old, IsEnum h e it ((i : Nat) : Int) old) ∧ h.IsTupleIter it a i ∧ e ≠ it ∧ e ≠ a ∧ a ≠ it) where
  mem := by simp
  obj := fun i h st b hb => by
    obtain ⟨⟨old, he⟩, ⟨o, ho, hc, hd⟩, _⟩ := st
    have e' : b = e ∨ b = it := by simpa using hb
    rcases e' with z | z
    · rw [z]; exact ⟨_, he, fun v q => nomatch q⟩
    · rw [z]; exact ⟨o, ho, fun v q => by rw [hd] at q; cases q⟩
  keep := fun i h h' st k => let ⟨⟨old, he⟩, hi, hne⟩ := st; ⟨⟨old, k e (by simp) _ he⟩, hi.at fun o q => k it (by simp) o q, hne⟩
  item := by
    intro X hP hw hK hc i pins s σ H E I hf st hg
    subst hP hw hK
    obtain ⟨⟨old, he⟩, hit, hne, hea, hai⟩ := st
    obtain ⟨xs, x, hq, hx⟩ := hg
    obtain ⟨its, rv, p, hz⟩ := I.tuple hq
    obtain ⟨u, hu, ru⟩ := rv.get hx
    have hel : e < s.heap.objs.size := Heap.lt_size he
    have hil : it < s.heap.objs.size := by obtain ⟨_, q, _⟩ := hit; exact Heap.lt_size q
    have hh : X.A.in1.handled = none := I.ok.hd hc
    have hlt : i < its.toArray.size := by
      have := (List.getElem?_eq_some_iff.mp hu).1
      simpa using this
    refine wpAny_pyNext_enum_itemC (Draws.tuple hh it a hai its.toArray) he ⟨hit, p⟩ hlt hne (by simp [hne, hea]) fun u' h' tk hP ho hit' hT hsz hk => ?_
    have eu : u' = u := by
      have q : its.toArray[i]? = some u' := hP
      have q2 : its.toArray[i]? = some u := by simpa using hu
      rw [q] at q2; cases q2; rfl
    subst eu
    refine ⟨_, rfl, wpAny_letOwnedTupleGo_enum (s := { s with heap := h', toks := tk + 1 }) ho fun h'' he' sb => ?_⟩
    have hT2 : h''.get? s.heap.objs.size = some { cls := .type "tuple", data := .seq #[.int i tk, u'] } := (sb.2 _ (Nat.ne_of_gt hel)).trans hT
    have new : ObjOk X.prog X.w (upd H s.heap.objs.size (.tup [.int (i : Nat), x])) h'' s.heap.objs.size (.tup [.int (i : Nat), x]) :=
      ⟨by show 2 ≤ sizeLine; decide, [.int i tk, u'], .cons ⟨_, rfl⟩ (.cons ru .nil), ⟨_, hT2, rfl, _, rfl⟩⟩
    have I1 : Inv X pins σ (upd H s.heap.objs.size (.tup [.int (i : Nat), x])) { s with heap := h'', toks := tk + 1 } :=
      I.turnedNew (ch := [e, it]) (fun b ob hb q => (sb.2 b (fun z => hb (by simp [z]))).trans (hk b ob (fun z => hb (by simp [z])) (fun z => hb (by simp [z])) q)) hf (Nat.le_refl _) new
    refine ⟨.ref s.heap.objs.size, _, I1, rfl, ⟨_, x, rfl, I.hok.fresh (Nat.le_refl _), rfl, fun ys hy => by rw [I.tuple_inj hy hq]; exact hx⟩, ⟨⟨u', ?_⟩, hit'.1.at fun o q => (sb.2 it (Ne.symm hne)).trans q, hne, hea, hai⟩, fun b hb => ?_⟩
    · have e1 : ((i + 1 : Nat) : Int) = (i : Int) + 1 := by omega
      rw [e1]; exact he'
    · have hb' : b < s.heap.objs.size := by
        have e' : b = e ∨ b = it := by simpa using hb
        rcases e' with z | z
        · rw [z]; exact hel
        · rw [z]; exact hil
      rw [upd_ne (Nat.ne_of_lt hb')]
      exact (hf b hb).1
  done := by
    intro X hP hw hK hc i pins s σ H E I hf st hg
    subst hP hw hK
    obtain ⟨⟨old, he⟩, hit, hne, hea, hai⟩ := st
    obtain ⟨xs, hq, hx⟩ := hg
    obtain ⟨its, rv, p, hz⟩ := I.tuple hq
    obtain ⟨f0, f1, f2, f3, f4, f5⟩ := hf it (by simp)
    have hl := rv.length
    have hh : X.A.in1.handled = none := I.ok.hd hc
    have D := Draws.tuple (prog := X.prog) (w := X.w) hh it a hai (its.toArray)
    -- the index may stand behind the end
    have D' : Draws X.prog X.w X.A.in1 it [it, a] i (fun j v => its.toArray[j]? = some v ∧ j < i) (fun j h => h.IsTupleIter it a i ∧ h.IsTuple a its.toArray ∧ j = i) :=
      { live := fun _ _ st => let ⟨o, ho, _⟩ := st.1; ⟨o, ho⟩
        frame := fun _ _ _ st hk => ⟨st.1.at fun o e => hk it (by simp) o e, st.2.1.at fun o e => hk a (by simp) o e, st.2.2⟩
        item := fun j s' Q E' hj st => by have := st.2.2; omega
        done := fun s' Q E' st hE => wpAny_nextOf_tuple_end hh st.1 st.2.1 (by simp; omega) hE }
    exact wpAny_pyNext_enum_endD D' he ⟨hit, p, rfl⟩ fun h' eb => ⟨rfl, I.turned (t' := s.toks) (fun b o hb q => eb b o hb q) f0 f1 f3 f4 f5⟩
  self := fun A i s Q E st h => let ⟨⟨_, he⟩, _⟩ := st; wpAny_pyIter_enum he h
set_option maxHeartbeats 4000000 in
theorem meets_enumerate_newT1 (l : Addr) (items : Array Value) :
    Meets (Builtin.«enumerate.__new__» ⟨[.type "enumerate", .ref l], []⟩) (fun _ R s => s.heap.IsTuple l items ∧
      R (.ok (.ret (.ref (s.heap.push { cls := .type "tuple_iterator", data := .fields #[.ref l, .int 0 0] }).objs.size)))
        { s with heap := (s.heap.push { cls := .type "tuple_iterator", data := .fields #[.ref l, .int 0 0] }).push { cls := .type "enumerate", data := .fields #[.none, .bool false, .ref s.heap.objs.size, rawInt 0, .none, .none] } }) :=
  .of_wp fun prog w A R s h => by
    obtain ⟨hp, g, d, tk, os⟩ := s; obtain ⟨h1, h⟩ := h
    have hsub := sub_enumerate
    have q1 : ∀ {A' : Around} {E : Value → Shared → Prop} {Q : Value → Shared → Prop}, Q (.ref hp.objs.size) ⟨hp.push { cls := .type "tuple_iterator", data := .fields #[.ref l, .int 0 0] }, g, d, tk, os⟩ → wpAny (model prog w) A' (pyIter (.ref l)) Q E ⟨hp, g, d, tk, os⟩ :=
      fun q => (begins_tuple l items).iter prog w _ _ ⟨hp, g, d, tk, os⟩ _ h1 q
    wp_walk using q1
    refine wpAny_stack_any fun st => wpAny_pure ?_
    split
    · rename_i c _ _ _ _ _
      cases (c == Value.type "enumerate")
      · wp_walk using q1
        exact ⟨_, rfl, h⟩
      · wp_walk using q1
        exact ⟨_, rfl, h⟩
    · wp_walk using q1
      exact ⟨_, rfl, h⟩
theorem call_enumerate_tuple {prog : Program} {w : World} {A : Around} {E : Value → Shared → Prop} {s : Shared} {l : Addr} {items : Array Value} {Q : Value → Shared → Prop} (hL : s.heap.IsTuple l items)
    (h : ∀ h', IsEnum h' (s.heap.objs.size + 1) s.heap.objs.size 0 .none → h'.IsTupleIter s.heap.objs.size l 0 → h'.objs.size = s.heap.objs.size + 2 →
      (∀ b o, s.heap.get? b = some o → h'.get? b = some o) → Q (.ref (s.heap.objs.size + 1)) { s with heap := h' }) :
    wpAny (model prog w) A (call (.type "enumerate") [.ref l]) Q E s := by
  refine callType_new F.called_enumerate (by decide) (F.typeCall_enumerate_1 _) (F.newCall_enumerate_1 _) (fun obj => F.args_object_init_2 obj _) F.entry_enumerate_new
    (meets_enumerate_newT1 l items) ⟨hL, ?_⟩
  have hz : (s.heap.push { cls := .type "tuple_iterator", data := .fields #[.ref l, .int 0 0] }).objs.size = s.heap.objs.size + 1 := Heap.size_push ..
  show _ ∧ _
  rw [hz]
  have he : IsEnum ((s.heap.push { cls := .type "tuple_iterator", data := .fields #[.ref l, .int 0 0] }).push
      { cls := .type "enumerate", data := .fields #[.none, .bool false, .ref s.heap.objs.size, rawInt 0, .none, .none] }) (s.heap.objs.size + 1) s.heap.objs.size 0 .none := by
    have := Heap.get?_push_size (s.heap.push { cls := .type "tuple_iterator", data := .fields #[.ref l, .int 0 0] })
      (o := { cls := .type "enumerate", data := .fields #[.none, .bool false, .ref s.heap.objs.size, rawInt 0, .none, .none] }) rfl
    rw [hz] at this; exact this
  refine ⟨⟨_, he, rfl⟩, h _ he ⟨_, Heap.get?_push_of_some _ (Heap.get?_push_size _ rfl), rfl, rfl⟩ (by rw [Heap.size_push, hz]) fun b o x => Heap.get?_push_of_some _ (Heap.get?_push_of_some _ x)⟩
def iEnumT (K : PySem.W.Frag) (ta : TA) : TI := fun σ H R => ta σ H fun vs H1 => ∃ a xs, vs = [.ref a] ∧ SqT K H1 a xs ∧ R (IteT K a) H1
theorem pi_enumT {X : Cx} {e : Expr} {ta : TA} {p pos tpos : Pos} {elts : List Expr} {kk : Nat} (hg : Gl X "enumerate") (hm : X.mg "enumerate" = none) (ha : PA X [e] ta) (hs : starEach [e] X.env = [(false, eval e X.env)] := by rfl) :
    PI X (.Tuple elts kk tpos) (.Call (.Name "enumerate" p) [e] [] pos) (iEnumT X.K ta) := by
  refine ⟨fun pins s σ H R I h => ?_⟩
  refine PyProof.Rows.Call_ (ld_blt I hg hm PyProof.Rows.boot_enumerate (PyProof.Rows.callWith_type1 (thn (ha.run pos pins s σ H _ I h) fun us s1 ⟨vs, H1, I1, r1, q1⟩ => ?_) hs rfl))
  obtain ⟨a, xs, ex, hq, q⟩ := q1
  subst ex
  cases r1 with
  | cons r rr =>
    cases rr
    cases r
    obtain ⟨its, rv, p', hz⟩ := I1.tuple hq
    have hal : a < s1.heap.objs.size := by
      obtain ⟨o, q, _⟩ := p'
      exact Heap.lt_size q
    refine call_enumerate_tuple p' fun h' he hit hsz hk => wpAny_pyIter_enum he ?_
    have I2 : Inv X pins σ H1 { s1 with heap := h' } := I1.kept (t' := s1.toks) hk
    refine ⟨s1.heap.objs.size + 1, [s1.heap.objs.size + 1, s1.heap.objs.size], _, _, H1, rfl, I2, turn_enumT a (s1.heap.objs.size + 1) s1.heap.objs.size, ⟨⟨.none, he⟩, hit, Nat.succ_ne_self _, Nat.ne_of_gt (Nat.lt_succ_of_lt hal), Nat.ne_of_lt hal⟩, fun b hb => ?_, q⟩
    have e' : b = s1.heap.objs.size + 1 ∨ b = s1.heap.objs.size := by simpa using hb
    have hle : s1.heap.objs.size ≤ b := by
      rcases e' with z | z
      · rw [z]; exact Nat.le_add_right _ _
      · rw [z]; exact Nat.le_refl _
    exact I1.fpOk hle (I1.hok.fresh hle)
def enumD : Nat → List Dat → List Dat
  | _, [] => []
  | i, d :: ds => .tup [.int i, d] :: enumD (i + 1) ds
theorem enumD_length : ∀ (i : Nat) (ds : List Dat), (enumD i ds).length = ds.length
  | _, [] => rfl
  | i, d :: ds => by
    show (enumD (i + 1) ds).length + 1 = ds.length + 1
    rw [enumD_length (i + 1) ds]
theorem enumD_get : ∀ (k : Nat) {ds : List Dat} {i : Nat} {d : Dat}, ds[i]? = some d → (enumD k ds)[i]? = some (.tup [.int ((k + i : Nat)), d])
  | _, [], _, _, h => by simp at h
  | k, d :: ds, 0, d', h => by simp at h; subst h; rfl
  | k, d :: ds, i + 1, d', h => by
    have := enumD_get (k + 1) (ds := ds) (i := i) (d := d') (by simpa using h)
    have e : k + 1 + i = k + (i + 1) := by omega
    rw [e] at this
    simpa [enumD] using this
def fEnum (a : En → Option Dat) : En → Option (List Dat) := fun ρ => (a ρ).bind fun d => (tupOf d).bind fun ds => some (enumD 0 ds)
section
variable {C : Addr} {X : Cx} {e a b c o iter tg : Expr} {es : List Expr} {pos p p2 p3 : Pos} {f fa fb fc fd : En → Option Dat} {la lb : En → Option (List Dat)} {ua ub uc ud ue : TE} {ga gb : TA}
theorem wk_enumT {K : PySem.W.Frag} {l : Addr} {xs : List V} {ds : List Dat} {Hk : Hp} (h : Hk l = some (.tup xs)) (r : RpL C Hk ds xs) : Wk C (IteT K l) Hk Hk (enumD 0 ds) where
  go := fun i H hi l' => ⟨xs, xs[i]'(by rw [enumD_length] at hi; rw [r.length]; exact hi), SqT.of (l' _ _ h), by rw [enumD_length] at hi; simp [r.length, hi]⟩
  stop := fun H l' => ⟨xs, SqT.of (l' _ _ h), by rw [enumD_length, r.length]; exact Nat.le_refl _⟩
  yld := fun i H x H' hi l' y Hk1 h1 h2 => by
    obtain ⟨T, z, rfl, hT, rfl, y⟩ := y
    obtain ⟨d, h3, h4⟩ := r.get' (y xs (SqT.of (l' _ _ h)))
    have n2 : Nx Hk1 H _ _ := Nx.new (o := .tup [.int (i : Nat), z]) h2 hT
    refine ⟨_, _, enumD_get 0 h3, n2, rp_tup upd_same (rpl_cons ?_ (rpl_cons (h4.mono (h1.trans n2.kk)) rpl_nil))⟩
    rw [Nat.zero_add]
    exact rp_int
theorem si_enum {elts : List Expr} {kk : Nat} {tpos : Pos} (hm : X.mg "enumerate" = none) (ha : SE X C a ua f) (hg : Gl X "enumerate" := by rfl) (hs : starEach [a] X.env = [(false, eval a X.env)] := by rfl) :
    SI X C (.Tuple elts kk tpos) (.Call (.Name "enumerate" p) [a] [] pos) (iEnumT X.K (tCons ua tNil)) (fEnum f) := by
  refine ⟨pi_enumT hg hm (pa_cons ha.p pa_nil hs) hs, fun Hk H σ ρ ds r e R q => ?_⟩
  unfold fEnum at e
  obtain ⟨y, e1, e⟩ := Option.bind_eq_some_iff.mp e
  obtain ⟨es, e2, e⟩ := Option.bind_eq_some_iff.mp e
  cases e
  cases y <;> simp only [tupOf, reduceCtorEq] at e2
  cases e2
  refine ha.o Hk H σ ρ _ r e1 _ fun v Hk1 H1 n1 r1 => ?_
  obtain ⟨l, xs, rfl, h1, h2⟩ := r1.tup
  exact ⟨l, xs, rfl, SqT.of (n1.kh _ _ h1), q _ Hk1 H1 n1 (wk_enumT h1 h2)⟩
/-! ### x[i], x[j] = .., .. on an owned list -/
def sSwap (i : Nat) (fk fl f g : En → Option Dat) : En → Option Fl := fun ρ => (f ρ).bind fun d => (g ρ).bind fun d' => (fO i ρ).bind fun ds => (fk ρ).bind fun k => (intOf k).bind fun k => (ixN ds.length k).bind fun j =>
  (fl (ρ.set i (.ow (ds.set j d)))).bind fun k => (intOf k).bind fun k => (ixN ds.length k).bind fun j' => some (.nx (ρ.set i (.ow ((ds.set j d).set j' d'))))
theorem ss_swap (i : Nat) {x : Str} {p1 p2 p3 p4 p5 p6 : Pos} {k l : Expr} {uk ul : TE} {fk fl : En → Option Dat} {kt k2 : Nat} (hc : X.calm = true) (ha : SE X C a ua fa) (hb : SE X C b ub fb) (hk : SE X C k uk fk) (hl : SE X C l ul fl) (hN : X.N[i]? = some x := by rfl) (hv : Vis X.env.scope x := by first | exact Or.inl rfl | exact Or.inr (Or.inl rfl) | exact Or.inr (Or.inr rfl))
    (hd : (x == ("__debug__" : Str)) = false := by decide) (hcd : (x == ("__classdict__" : Str)) = false := by decide)
    (has : ∀ v, assign (.Subscript (.Name x p1) k p2) X.env v = (do
      let ov ← holding [v] (eval (.Name x p1) X.env)
      let iv ← holding [v, ov] (eval k X.env)
      standAt p2
      holding [v, ov, iv] (setItem ov iv v)
      release [v, ov, iv] []) := by intro _; rfl)
    (has2 : ∀ v, assign (.Subscript (.Name x p3) l p4) X.env v = (do
      let ov ← holding [v] (eval (.Name x p3) X.env)
      let iv ← holding [v, ov] (eval l X.env)
      standAt p4
      holding [v, ov, iv] (setItem ov iv v)
      release [v, ov, iv] []) := by intro _; rfl)
    (hs1 : (assignEach [.Subscript (.Name x p1) k p2, .Subscript (.Name x p3) l p4] X.env).map (·.2) = assign (.Subscript (.Name x p1) k p2) X.env :: (assignEach [.Subscript (.Name x p3) l p4] X.env).map (·.2) := by rfl)
    (hs2 : (assignEach [.Subscript (.Name x p3) l p4] X.env).map (·.2) = assign (.Subscript (.Name x p3) l p4) X.env :: (assignEach [] X.env).map (·.2) := by rfl)
    (hn : (assignEach [.Subscript (.Name x p1) k p2, .Subscript (.Name x p3) l p4] X.env).length = 2 := by rfl) (hst : (assignEach [.Subscript (.Name x p1) k p2, .Subscript (.Name x p3) l p4] X.env).findIdx? (·.1) = none := by rfl)
    (he1 : starEach [a, b] X.env = (false, eval a X.env) :: starEach [b] X.env := by rfl) (he2 : starEach [b] X.env = [(false, eval b X.env)] := by rfl)
    (hs : swapsWithSole [.Tuple [.Subscript (.Name x p1) k p2, .Subscript (.Name x p3) l p4] kt p5] (.Tuple [a, b] k2 p6) pos.line X.env = pure false := by rfl) (hw : swappedStores [.Tuple [.Subscript (.Name x p1) k p2, .Subscript (.Name x p3) l p4] kt p5] (.Tuple [a, b] k2 p6) X.env = pure none := by rfl)
    (h1 : (assignEach [.Tuple [.Subscript (.Name x p1) k p2, .Subscript (.Name x p3) l p4] kt p5] X.env).map (·.2) = [assign (.Tuple [.Subscript (.Name x p1) k p2, .Subscript (.Name x p3) l p4] kt p5) X.env] := by rfl) :
    SS X C (.Assign [.Tuple [.Subscript (.Name x p1) k p2, .Subscript (.Name x p3) l p4] kt p5] (.Tuple [a, b] k2 p6) pos) (tAsg (tTup (tCons ua (tCons ub tNil))) (gTup X.K 2 (gCons (gSub (tVar i) uk rSetL) (gCons (gSub (tVar i) ul rSetL) gNil)))) (sSwap i fk fl fa fb) := by
  refine ⟨ps_asg (pe_tup (pa_cons ha.p (pa_cons hb.p pa_nil he2) he1)) (pg_tup hc (pgs_cons (pg_sub (pe_var hN hv hd hcd) hk.p set_list has) (pgs_cons (pg_sub (pe_var hN hv hd hcd) hl.p set_list has2) pgs_nil hs2) hs1) hn hst) hs hw h1, fun Hk H σ ρ r rl e D hnx hr => ?_⟩
  obtain ⟨d, e0, e⟩ := Option.bind_eq_some_iff.mp (show (fa ρ).bind _ = some r from e)
  obtain ⟨d', e1, e⟩ := Option.bind_eq_some_iff.mp e
  obtain ⟨ds, e2, e⟩ := Option.bind_eq_some_iff.mp e
  obtain ⟨kd, e3, e⟩ := Option.bind_eq_some_iff.mp e
  obtain ⟨ki, e4, e⟩ := Option.bind_eq_some_iff.mp e
  obtain ⟨j, e5, e⟩ := Option.bind_eq_some_iff.mp e
  obtain ⟨ld, e6, e⟩ := Option.bind_eq_some_iff.mp e
  obtain ⟨li, e7, e⟩ := Option.bind_eq_some_iff.mp e
  obtain ⟨j', e8, e⟩ := Option.bind_eq_some_iff.mp e
  cases e
  cases kd <;> simp only [intOf, reduceCtorEq] at e4
  cases e4
  cases ld <;> simp only [intOf, reduceCtorEq] at e7
  cases e7
  have ho := fO_some e2
  have hil : i < ρ.length := (List.getElem?_eq_some_iff.mp ho).1
  obtain ⟨m, xs, h1', h2, h3, h4⟩ := rl.ow i ds ho
  refine ha.o Hk H σ ρ d rl e0 _ fun v1 Hk1 H1 n1 r1 => ?_
  refine hb.o Hk1 H1 σ ρ d' (rl.nx n1) e1 _ fun v2 Hk2 H2 n2 r2 => ?_
  have n12 := n1.trans n2
  refine ⟨by show 2 ≤ sizeLine; decide, fun t ht => ?_⟩
  have n3 : Nx Hk2 H2 Hk2 (upd H2 t (.tup [v1, v2])) := Nx.own n2.kh ht
  have n123 := n12.trans n3
  refine ⟨t, [v1, v2], rfl, SqT.of upd_same, rfl, v1, [v2], rfl, .ref m, h1', hk.o Hk2 _ σ ρ _ (rl.nx n123) e3 _ fun v3 Hk3 H3 n4 r3 => ?_⟩
  have n14 := n123.trans n4
  refine ⟨m, xs, _, j, rfl, r3.int, n14.hh _ _ h3, by rw [h4.length]; exact e5, ?_⟩
  obtain ⟨rl2, ns2⟩ := (rl.nx n14).mut ho h1' (RpL.set (r1.mono (n2.kk.trans (n3.kk.trans n4.kk))) j (h4.mono n14.kk))
  refine ⟨v2, [], rfl, .ref m, h1', hl.o Hk3 _ σ _ _ rl2 e6 _ fun v4 Hk4 H4 n5 r4 => ?_⟩
  refine ⟨m, xs.set j v1, _, j', rfl, r4.int, n5.hh _ _ upd_same, by rw [List.length_set, h4.length]; exact e8, rfl, ?_⟩
  have ho2 : (ρ.set i (.ow (ds.set j d)))[i]? = some (.ow (ds.set j d)) := List.getElem?_set_self hil
  obtain ⟨rl3, ns3⟩ := (rl2.nx n5).mut ho2 h1' (RpL.set (r2.mono (n3.kk.trans (n4.kk.trans n5.kk))) j' ((RpL.set (r1.mono (n2.kk.trans (n3.kk.trans n4.kk))) j (h4.mono n14.kk)).mono n5.kk))
  rw [List.set_set] at rl3 ns3
  exact hnx _ rfl σ Hk4 _ (((n14.ns.trans ns2).trans n5.ns).trans ns3) rl3
end
end L3
set_option maxHeartbeats 4000000
namespace L3
open PySem L2 RZ

/-! ### [.. for .. in .. for .. in ..] -/
theorem Rel.carry {C : Addr} {Hk H Hk' H' : Hp} {σ : L2.St} {ρ : En} (r : Rel C Hk H σ ρ) (kk : Le Hk Hk') (kh : Le Hk' H') (o : ∀ l, Own σ ρ l → H' l = H l ∧ Hk' l = none) : Rel C Hk' H' σ ρ where
  kh := kh
  len := r.len
  fz := fun i d e => by
    obtain ⟨v, h1, h2⟩ := r.fz i d e
    exact ⟨v, h1, h2.mono kk⟩
  ow := fun i ds e => by
    obtain ⟨l, xs, h1, h2, h3, h4⟩ := r.ow i ds e
    obtain ⟨o1, o2⟩ := o l ⟨i, ds, e, h1⟩
    exact ⟨l, xs, h1, o2, o1.trans h3, h4.mono kk⟩
  ds := r.ds
theorem Rel.own_some {C : Addr} {Hk H : Hp} {σ : L2.St} {ρ : En} (r : Rel C Hk H σ ρ) {l : Addr} (o : Own σ ρ l) : Hk l = none ∧ H l ≠ none := by
  obtain ⟨i, ds, h, h1⟩ := o
  obtain ⟨m, xs, h2, h3, h4, _⟩ := r.ow i ds h
  rw [h1] at h2; cases h2
  exact ⟨h3, by rw [h4]; intro z; cases z⟩
theorem own_wipe {σ : L2.St} {ρ : En} {vs : List Nat} {l : Addr} (o : Own (wipe σ vs) (wipeE ρ vs) l) : Own σ ρ l := by
  obtain ⟨i, ds, h, h1⟩ := o
  obtain ⟨h2, h3⟩ := wipeE_some (x := .ow ds) (by intro z; cases z) h
  rw [wipe_out h3] at h1
  exact ⟨i, ds, h2, h1⟩
def lc2Go (gt : Dat → En → Option En) (tt : En → Option Bool) (inn : En → Option (List Dat)) (ρ : En) : List Dat → Option (List Dat)
  | [] => some []
  | d :: ds => (gt d ρ).bind fun ρ1 => (tt ρ1).bind fun b => match b with
    | true => (inn ρ1).bind fun ys => (lc2Go gt tt inn ρ ds).bind fun zs => some (ys ++ zs)
    | false => lc2Go gt tt inn ρ ds
def fInn (it : En → Option (List Dat)) (gt : Dat → En → Option En) (tt : En → Option Bool) (te : En → Option Dat) (vs : List Nat) : En → Option (List Dat) := fun ρ => (it ρ).bind fun es => lcGo gt tt te (wipeE ρ vs) es
def fLc2 (it : En → Option (List Dat)) (gt : Dat → En → Option En) (tt : En → Option Bool) (inn : En → Option (List Dat)) (vs : List Nat) : En → Option (List Dat) := fun ρ => (it ρ).bind fun ds => (lc2Go gt tt inn (wipeE ρ vs) ds).bind fun out => if out.length ≤ 100000 then some out else none
/-- D set aside -/
theorem aside {Hk H1 Hk' Hx Hk4 H4 : Hp} {D : Addr} {acc : List V} (n1 : Nx Hk H1 Hk' Hx) (hx : Hx D = none) (hD : H1 D = none) (kk : Le Hk' Hk4) (hh : Le (upd Hx D (.lst acc)) H4) (kh : Le Hk4 H4) (sp : ∀ l, Hk' l = none → upd Hx D (.lst acc) l ≠ none → Hk4 l = none) :
    ∃ Hy : Hp, Hy D = none ∧ Nx Hk H1 Hk4 Hy ∧ ∀ zs, upd H4 D (.lst zs) = upd Hy D (.lst zs) := by
  have hkD : Hk' D = none := n1.kh.free hx
  have h4 : Hk4 D = none := sp D hkD (by rw [upd_same]; intro z; cases z)
  have hle : Le H1 (upd Hx D (.lst acc)) := n1.hh.trans (Le.new hx)
  refine ⟨fun q => if q = D then none else H4 q, if_pos rfl, ⟨n1.kk.trans kk, fun q o e => ?_, fun q o e => ?_, fun l e n => sp l (n1.sp l e n) (fun z => n ?_)⟩, fun zs => ?_⟩
  · have z : q ≠ D := fun z => by subst z; rw [hD] at e; cases e
    show (if q = D then none else H4 q) = some o
    rw [if_neg z]
    exact hh _ _ (hle _ _ e)
  · have z : q ≠ D := fun z => by subst z; rw [h4] at e; cases e
    show (if q = D then none else H4 q) = some o
    rw [if_neg z]
    exact kh _ _ e
  · exact hle.free z
  · funext q
    unfold upd
    by_cases z : q = D
    · rw [if_pos z, if_pos z]
    · rw [if_neg z, if_neg z]
      show H4 q = (if q = D then none else H4 q)
      rw [if_neg z]
theorem upd_id {H : Hp} {D : Addr} {o : HO} (h : H D = some o) : H = upd H D o := by
  funext q
  unfold upd
  by_cases z : q = D
  · subst z; rw [if_pos rfl]; exact h
  · rw [if_neg z]
theorem ok_lc2 {C : Addr} {wi wi1 : TI} {g g1 : TG} {tt tt1 : TT} {te : TE} {fi fi1 : En → Option (List Dat)} {gt gt1 : Dat → En → Option En} {ft ft1 : En → Option Bool} {fe : En → Option Dat} {ws ws1 vs vs1 : List Nat}
    (hws : ∀ j ∈ ws, j ∈ vs) (hws1 : ∀ j ∈ ws1, j ∈ vs1) (hi : OkIw C wi fi) (og : OkG C ws g gt) (ot : OkT C tt ft) (hi1 : OkI C wi1 fi1) (og1 : OkG C ws1 g1 gt1) (ot1 : OkT C tt1 ft1) (oe : OkE C te fe) :
    OkL C (tLc2 wi g tt wi1 g1 tt1 te vs vs1) (fLc2 fi gt ft (fInn fi1 gt1 ft1 fe vs1) vs) := fun Hk0 H0 σ ρ out0 r0 e Q q => by
  unfold fLc2 at e
  obtain ⟨ds, e1, e⟩ := Option.bind_eq_some_iff.mp e
  obtain ⟨out, e2, e⟩ := Option.bind_eq_some_iff.mp e
  split at e
  · rename_i hz
    cases e
    refine hi Hk0 H0 σ ρ ds r0 e1 _ fun J Hk H1 n0 W => ?_
    intro D hD
    have r := r0.nx n0
    let Inv : Nat → Hp → Prop := fun i H => ∃ (Hk' Hx : Hp) (acc : List V) (pre post : List Dat), Nx Hk H1 Hk' Hx ∧ Hx D = none ∧ H = upd Hx D (.lst acc) ∧ RpL C Hk' pre acc ∧ lc2Go gt ft (fInn fi1 gt1 ft1 fe vs1) (wipeE ρ vs) (ds.drop i) = some post ∧ out0 = pre ++ post
    refine ⟨fun i m H => m = ds.length - i ∧ i ≤ ds.length ∧ Inv i H, ⟨ds.length, by simp, Nat.zero_le _, Hk, H1, [], [], out0, Nx.refl r.kh, hD, rfl, rpl_nil, e2, rfl⟩, ?_⟩
    rintro i m H ⟨rfl, hi', Hk', Hx, acc, pre, post, n1, hx, rfl, ra, hgo, ho⟩
    have hle : Le H1 (upd Hx D (.lst acc)) := n1.hh.trans (Le.new hx)
    have hlk : Le Hk' (upd Hx D (.lst acc)) := n1.kh.trans (Le.new hx)
    by_cases hlt : i < ds.length
    · refine .inr ⟨W.go i _ hlt hle, Inv (i + 1), fun H' p' => ⟨ds.length - (i + 1), by omega, rfl, hlt, p'⟩, fun x H' y => ?_⟩
      obtain ⟨d, Hk2, ed, n2, rd⟩ := W.yld i _ x H' hlt hle y Hk' n1.kk hlk
      have edrop : ds.drop i = d :: ds.drop (i + 1) := by
        rw [List.drop_eq_getElem_cons hlt]
        have : ds[i]? = some ds[i] := List.getElem?_eq_getElem hlt
        rw [this] at ed; cases ed; rfl
      rw [edrop] at hgo
      obtain ⟨ρ1, e3, hgo⟩ := Option.bind_eq_some_iff.mp (show (gt d (wipeE ρ vs)).bind _ = some post from hgo)
      obtain ⟨b, e4, hgo⟩ := Option.bind_eq_some_iff.mp hgo
      have rel2 : Rel C Hk2 H' (wipe σ vs) (wipeE ρ vs) := by
        have q1 : Rel C Hk' (upd Hx D (.lst acc)) σ ρ := (r.nx (Hk' := Hk') (H' := upd Hx D (.lst acc)) ⟨n1.kk, hle, hlk, n1.sp⟩)
        exact (q1.nx n2).wipe vs
      refine og Hk2 H' _ _ ρ1 d x rel2 rd e3 _ fun σ2 r2 l2 k2 o2 => ?_
      have oBase : ∀ l, Own σ2 ρ1 l → Hk l = none ∧ H1 l ≠ none := fun l o => r.own_some (own_wipe (o2 l o))
      refine ⟨wipe_agree (by rw [l2, wipe_length]) fun j hj => k2 j fun z => hj (hws j z), ?_⟩
      refine ot Hk2 H' σ2 ρ1 b r2 e4 _ fun Hk3 H3 n3 => ?_
      have n23 := n2.trans n3
      cases b with
      | false =>
        refine iteF ?_
        obtain ⟨Hy, hy1, hy2, hy3⟩ := aside n1 hx hD n23.kk n23.hh n23.kh n23.sp
        exact ⟨Hk3, Hy, acc, pre, post, hy2, hy1, (upd_id (n23.hh _ _ upd_same)).trans (hy3 _), ra.mono n23.kk, hgo, ho⟩
      | true =>
        obtain ⟨ys, e5, hgo⟩ := Option.bind_eq_some_iff.mp hgo
        obtain ⟨zs, e6, hgo⟩ := Option.bind_eq_some_iff.mp hgo
        cases hgo
        unfold fInn at e5
        obtain ⟨es, e7, e5⟩ := Option.bind_eq_some_iff.mp e5
        refine iteT (hi1 Hk3 H3 σ2 ρ1 es (r2.nx n3) e7 _ fun J1 Hk4 H4 n4 W1 => ?_)
        have n24 := n23.trans n4
        have hH' : Le H1 H' := hle.trans n2.hh
        let Inv1 : Nat → Hp → Prop := fun j H => ∃ (Hk' Hx : Hp) (acc : List V) (pre post : List Dat), Nx Hk H1 Hk' Hx ∧ Le Hk4 Hk' ∧ Hx D = none ∧ H = upd Hx D (.lst acc) ∧ RpL C Hk' pre acc ∧ lcGo gt1 ft1 fe (wipeE ρ1 vs1) (es.drop j) = some post ∧ out0 = pre ++ (post ++ zs)
        obtain ⟨Hy, hy1, hy2, hy3⟩ := aside n1 hx hD n24.kk n24.hh n24.kh n24.sp
        refine ⟨fun j k H => k = es.length - j ∧ j ≤ es.length ∧ Inv1 j H, ⟨es.length, by simp, Nat.zero_le _, Hk4, Hy, acc, pre, ys, hy2, Le.refl _, hy1, (upd_id (n24.hh _ _ upd_same)).trans (hy3 _), ra.mono n24.kk, e5, ho⟩, ?_⟩
        clear ra ho hy1 hy2 hy3 hle hlk n1 hx
        rintro j k H ⟨rfl, hj', Hk', Hx, acc, pre, post, n1, k4, hx, rfl, ra, hgo, ho⟩
        have hle : Le H1 (upd Hx D (.lst acc)) := n1.hh.trans (Le.new hx)
        have hlk : Le Hk' (upd Hx D (.lst acc)) := n1.kh.trans (Le.new hx)
        by_cases hlt1 : j < es.length
        · refine .inr ⟨W1.go j _ hlt1 (k4.trans hlk), Inv1 (j + 1), fun H' p' => ⟨es.length - (j + 1), by omega, rfl, hlt1, p'⟩, fun x5 H5 y5 => ?_⟩
          obtain ⟨d1, Hk5, ed1, n5, rd1⟩ := W1.yld j _ x5 H5 hlt1 (k4.trans hlk) y5 Hk' k4 hlk
          have edrop1 : es.drop j = d1 :: es.drop (j + 1) := by
            rw [List.drop_eq_getElem_cons hlt1]
            have : es[j]? = some es[j] := List.getElem?_eq_getElem hlt1
            rw [this] at ed1; cases ed1; rfl
          rw [edrop1] at hgo
          obtain ⟨ρ3, e8, hgo⟩ := Option.bind_eq_some_iff.mp (show (gt1 d1 (wipeE ρ1 vs1)).bind _ = some post from hgo)
          obtain ⟨b1, e9, hgo⟩ := Option.bind_eq_some_iff.mp hgo
          have rel5 : Rel C Hk5 H5 (wipe σ2 vs1) (wipeE ρ1 vs1) := by
            have q1 : Rel C Hk' (upd Hx D (.lst acc)) σ2 ρ1 := by
              refine r2.carry ((n3.trans n4).kk.trans k4) hlk fun l o => ?_
              obtain ⟨b1, b2⟩ := oBase l o
              refine ⟨?_, n1.sp l b1 b2⟩
              cases hq : H1 l with
              | none => exact absurd hq b2
              | some w => rw [hle _ _ hq, hH' _ _ hq]
            exact (q1.nx n5).wipe vs1
          refine og1 Hk5 H5 _ _ ρ3 d1 x5 rel5 rd1 e8 _ fun σ3 r3 l3 k3 o3 => ?_
          refine ⟨wipe_agree (by rw [l3, wipe_length]) fun j' hj => k3 j' fun z => hj (hws1 j' z), ?_⟩
          refine ot1 Hk5 H5 σ3 ρ3 b1 r3 e9 _ fun Hk6 H6 n6 => ?_
          have n56 := n5.trans n6
          cases b1 with
          | false =>
            refine iteF ?_
            obtain ⟨Hy, hy1, hy2, hy3⟩ := aside n1 hx hD n56.kk n56.hh n56.kh n56.sp
            exact ⟨Hk6, Hy, acc, pre, post, hy2, k4.trans n56.kk, hy1, (upd_id (n56.hh _ _ upd_same)).trans (hy3 _), ra.mono n56.kk, hgo, ho⟩
          | true =>
            obtain ⟨yv, ey, hgo⟩ := Option.bind_eq_some_iff.mp hgo
            obtain ⟨yr, ez, hgo⟩ := Option.bind_eq_some_iff.mp hgo
            cases hgo
            refine iteT (oe Hk6 H6 σ3 ρ3 yv (r3.nx n6) ey _ fun v Hk7 H7 n7 r7 => ?_)
            have n57 := n56.trans n7
            obtain ⟨Hy, hy1, hy2, hy3⟩ := aside n1 hx hD n57.kk n57.hh n57.kh n57.sp
            refine ⟨acc, n57.hh _ _ upd_same, ?_, ?_⟩
            · have ea : acc.length = pre.length := ra.length
              have : out0.length = pre.length + (yv :: yr ++ zs).length := by rw [ho, List.length_append]
              simp at this
              exact sz_lt (by omega)
            · refine ⟨Hk7, Hy, acc ++ [v], pre ++ [yv], yr, hy2, k4.trans n57.kk, hy1, hy3 _, (ra.mono n57.kk).append (rpl_cons r7 rpl_nil), ez, ?_⟩
              rw [ho, List.append_assoc]; rfl
        · have z : j = es.length := by omega
          subst z
          rw [List.drop_length] at hgo
          cases hgo
          exact .inl ⟨W1.stop _ (k4.trans hlk), Hk', Hx, acc, pre, zs, n1, hx, rfl, ra, e6, by rw [ho]; rfl⟩
    · have z : i = ds.length := by omega
      subst z
      rw [List.drop_length] at hgo
      cases hgo
      rw [List.append_nil] at ho
      subst ho
      have n0' : Nx Hk0 H0 Hk' (upd Hx D (.lst acc)) := n0.trans ⟨n1.kk, hle, hlk, n1.sp⟩
      exact .inl ⟨W.stop _ hle, q D acc Hk' _ n0' (n0.hh.free hD) (n1.kh.free hx) upd_same ra⟩
  · cases e
section
variable {C : Addr} {X : Cx} {elt tg iter tg1 iter1 : Expr} {ifs ifs1 : List Expr} {scope : Scope} {own : List (Str × Nat)} {vs1 : List Nat} {pos : Pos} {wi wi1 : TI} {g g1 : TG} {tt tt1 : TT} {te : TE} {fi fi1 : En → Option (List Dat)} {gt gt1 : Dat → En → Option En} {ft ft1 : En → Option Bool} {fe : En → Option Dat} {ws ws1 : List Nat}
theorem sl_lc2 (hc : X.calm = true) (hN : X.N.Nodup) (ok : BlkOk X.N X.env.scope scope own) (hv : ∀ i ∈ vs1, i ∈ own.map (·.2)) (hws : ∀ j ∈ ws, j ∈ own.map (·.2)) (hws1 : ∀ j ∈ ws1, j ∈ vs1) (hi : SIw X C tg iter wi fi)
    (hg : ∀ (s : Shared) (H : Hp) (C' : Addr) (cl : List (Str × Addr)) (fp : List Addr), SG (X.blk s H scope (compEnvC scope cl C' X.env) fp) C tg ws g gt) (ht : ∀ (s : Shared) (H : Hp) (C' : Addr) (cl : List (Str × Addr)) (fp : List Addr), STs (X.blk s H scope (compEnvC scope cl C' X.env) fp) C ifs tt ft)
    (hi1 : ∀ (s : Shared) (H : Hp) (C' : Addr) (cl : List (Str × Addr)) (fp : List Addr), SI (X.blk s H scope (compEnvC scope cl C' X.env) fp) C tg1 iter1 wi1 fi1)
    (hg1 : ∀ (s : Shared) (H : Hp) (C' : Addr) (cl : List (Str × Addr)) (fp : List Addr), SG (X.blk s H scope (compEnvC scope cl C' X.env) fp) C tg1 ws1 g1 gt1) (ht1 : ∀ (s : Shared) (H : Hp) (C' : Addr) (cl : List (Str × Addr)) (fp : List Addr), STs (X.blk s H scope (compEnvC scope cl C' X.env) fp) C ifs1 tt1 ft1)
    (he : ∀ (s : Shared) (H : Hp) (C' : Addr) (cl : List (Str × Addr)) (fp : List Addr), SE (X.blk s H scope (compEnvC scope cl C' X.env) fp) C elt te fe) (hs : ∀ x, foldedSetIterable iter X.env x = pure x := by intro _; rfl) (hs1 : ∀ env x, foldedSetIterable iter1 env x = pure x := by intro _ _; rfl) :
    SL X C (.ListComp elt [⟨tg, iter, ifs, 0⟩, ⟨tg1, iter1, ifs1, 0⟩] scope pos) (tLc2 wi g tt wi1 g1 tt1 te (own.map (·.2)) vs1) (fLc2 fi gt ft (fInn fi1 gt1 ft1 fe vs1) (own.map (·.2))) :=
  ⟨pe_lc2 hc hN hi.p ok hv (fun s H C' cl fp => (hg s H C' cl fp).p) (fun s H C' cl fp => (ht s H C' cl fp).p) (fun s H C' cl fp => (hi1 s H C' cl fp).p) (fun s H C' cl fp => (hg1 s H C' cl fp).p) (fun s H C' cl fp => (ht1 s H C' cl fp).p) (fun s H C' cl fp => (he s H C' cl fp).p) hs hs1,
    ok_lc2 hws hws1 hi.o (hg X.s_0 X.H_0 0 [] []).o (ht X.s_0 X.H_0 0 [] []).o (hi1 X.s_0 X.H_0 0 [] []).o (hg1 X.s_0 X.H_0 0 [] []).o (ht1 X.s_0 X.H_0 0 [] []).o (he X.s_0 X.H_0 0 [] []).o⟩
end
end L3
set_option maxHeartbeats 4000000
namespace L3
open PySem L2 RZ
open AutoSeq1 (wpAny_loadPart')

/-! ### ==, != by the class's own __eq__ -/
section
variable {M : Model} {prog : Program} {w : World} {A : Around} {E : Value → Shared → Prop} {s : Shared} {K : PySem.W.Frag} {x y C : Addr} {ox : Obj} {od : Option Obj}
theorem ifBound_objNe {args : List Value} {Q : Option Value → Shared → Prop} (X : K.In s.heap) (I : PySem.W.InstAt s.heap x ox C od) (hs : PySem.W.findIn K (.ref C) "__ne__" = some (some (.builtin "object.__ne__")))
    (h : wpAny M A (call (.builtin "object.__ne__") (.ref x :: args)) (fun v => Q (some v)) E s) : wpAny M A (callSpecialIfBound? (.ref x) "__ne__" args) Q E s := by
  simp only [callSpecialIfBound?, bindSpecialIfBound?]
  refine wpAny_holding (wpAny_bind (wpAny_bind (wpAny_bind (I.type.here ((PySem.W.looks_findIn X hs).here ?_)))))
  refine wpAny_bind (wpAny_askSetting (wpAny_ite ?_))
  have fin : wpAny M A (call (.builtin "object.__ne__") ([.ref x] ++ args) >>= fun v => pure (some v)) Q E s := wpAny_bind (wpAny_mono h (fun v s' h' => wpAny_pure h') fun _ _ h' => h')
  split
  · exact wpAny_bind (wpAny_of_eq (F.cmp_object.ne.bind _) (wpAny_pure (by exact fin)))
  · exact wpAny_tryCatch (wpAny_bind (wpAny_of_eq (F.cmp_object.ne.bind _) (wpAny_pure (by exact fin))))
theorem ne_K {f : Addr} {od' : Option Obj} {oy : Obj} {Q : Value → Shared → Prop} (hu : A.units + 1 < cLine) (X : K.In s.heap) (I : PySem.W.InstAt s.heap x ox C od) (J : PySem.W.InstAt s.heap y oy C od')
    (hm : PySem.W.mroIn K C (.type "object") = some true) (hn : PySem.W.findIn K (.ref C) "__ne__" = some (some (.builtin "object.__ne__"))) (he : PySem.W.findIn K (.ref C) "__eq__" = some (some (.ref f))) (hf : PySem.W.isFn K (.ref f) = true)
    (h : wpAny (model prog w) A.in1 (call (.ref f) [.ref x, .ref y]) (fun v s' => ∃ b, v = .bool b ∧ Q (.bool (!b)) s') E s) : wpAny (model prog w) A (richCompare .NotEq (.ref x) (.ref y)) Q E s := by
  have one : wpAny (model prog w) A (tryCompare (.ref x) "__ne__" (.ref y)) (fun r s' => ∃ v, r = some v ∧ Q v s') E s := by
    unfold tryCompare
    refine wpAny_bind (ifBound_objNe X I hn ?_)
    refine wpAny_call (codeAny_call_builtin F.cmp_object.ne.plain F.cmpEntry_ne (PySem.W.check_slot F.cmpKind_ne F.cmpSplit_ne (I.type.andThen (PySem.W.looks_mroIn X hm)) (F.cmpArgs_ne _ _) ?_))
    unfold Builtin.«object.__ne__»
    have hcall : wpAny (model prog w) A.in1 (callSpecialIfBound? (.ref x) (Str.ofString "__eq__") [.ref y]) (fun r s' => ∃ b, r = some (.bool b) ∧ Q (.bool (!b)) s') E s := by
      refine PySem.W.ifBound_K X I he hf (wpAny_mono h (fun v s' hv => ?_) fun _ _ z => z)
      obtain ⟨b, rfl, q⟩ := hv
      exact ⟨b, rfl, q⟩
    repeat (first
      | with_reducible refine wpAny_cRoomFor (show A.in1.units < cLine from hu) ?_
      | (refine wpAny_bind (m := callSpecialIfBound? (.ref x) (Str.ofString "__eq__") [.ref y]) (wpAny_mono hcall (fun r s' hr => ?_) fun _ _ z => z))
      | wp_step)
    obtain ⟨b, rfl, q⟩ := hr
    repeat (first | exact q | exact wpAny_pure q | (refine wpAny_bind (m := truthy (.bool _)) (wpAny_truthy_bool ?_)) | wp_step)
    all_goals exact ⟨_, rfl, q⟩
  unfold richCompare
  simp only [oneThing_ref]
  refine wpAny_holding (wpAny_bind (wpAny_cRoomFor (Nat.lt_of_succ_lt hu) ?_))
  refine wpAny_bind (I.type.here (wpAny_bind (J.type.here ?_)))
  split
  · rename_i q
    simp at q
  · refine wpAny_bind (wpAny_pure ?_)
    simp only [Bool.false_eq_true, if_false]
    refine wpAny_bind (wpAny_mono one (fun r s' z => ?_) fun _ _ e => e)
    obtain ⟨v, rfl, hq⟩ := z
    exact wpAny_pure hq
end
section
variable {X : Cx} {C f : Addr} {fd : FuncData} {ps : List Str} {n : Nat} {sp : Sp} {pins : List (Addr × Obj)} {σ : L2.St} {H : Hp} {s : Shared}
theorem run_atF {A : Around} {Q : VK} {us : List Value} {vs : List V} (Fk : FnOk X.prog X.w X.K X.mg X.base CX0 n f fd ps sp) (hr : Room n A) (hb : Binds X.K fd ps []) (e0 : Env0 X.prog X.w X.K X.mg X.base A X.stack s H)
    (I : Inv X pins σ H s) (r : Vals vs us) (h : sp vs H Q E0) : wpAny (model X.prog X.w) A (call (.ref f) us) (EP X pins σ Q) X.xe s := by
  have hl : (us ++ []).length = ps.length := by rw [List.append_nil, ← r.length]; exact Fk.len _ _ _ _ h
  refine wpAny_call (codeAny_mono (Fk.run A X.stack s H ⟨us, []⟩ us vs Q E0 hr e0 (by
    have := hb s us I.kIn hl
    simpa using this) r h) fun r s' hq => ?_)
  cases r with
  | error e => exact pass0 pins σ H s e s' I hq
  | ok fl =>
    cases fl with
    | ret u => exact I.after hq
    | next => exact False.elim hq
    | brk => exact False.elim hq
    | cont => exact False.elim hq
theorem two_inst {a b dx dy : Addr} {fs gs : List (Str × V)} (I : Inv X pins σ H s) (ha : H a = some (.ins C dx fs)) (hb : H b = some (.ins C dy gs)) : ∃ o od o' od', PySem.W.InstAt s.heap a o C od ∧ PySem.W.InstAt s.heap b o' C od' := by
  obtain ⟨mA, J, _⟩ := ins_get I.hok ha
  obtain ⟨mB, J', _⟩ := ins_get I.hok hb
  obtain ⟨od, J, _⟩ := J.look
  obtain ⟨od', J', _⟩ := J'.look
  exact ⟨_, _, _, _, J, J'⟩
/-- x op y, both instances of the class at C; what the own __eq__ promises -/
def rOwnI (C : Addr) (sp : Sp) (neg : Bool) : R2 := fun x y H Q => ∃ a dx fs b dy gs, x = .ref a ∧ y = .ref b ∧ H a = some (.ins C dx fs) ∧ H b = some (.ins C dy gs) ∧ sp [x, y] H (fun v H' => ∃ k, v = .bl k ∧ Q (.bl (if neg = true then !k else k)) H') E0
theorem op_eqOwn (Fk : FnOk X.prog X.w X.K X.mg X.base CX0 n f fd ps sp) (hr : Room n X.A) (hb : Binds X.K fd ps []) (hs : PySem.W.findIn X.K (.ref C) "__eq__" = some (some (.ref f))) (hf : PySem.W.isFn X.K (.ref f) = true) : OpR X (compareOp .Eq) (rOwnI C sp false) := by
  intro pins s σ H x y v u Q I rx ry h
  obtain ⟨a, dx, fs, b, dy, gs, rfl, rfl, ha, hb', q⟩ := h
  cases (show v = Value.ref a from rx)
  cases (show u = Value.ref b from ry)
  obtain ⟨o, od, o', od', J, J'⟩ := two_inst I ha hb'
  obtain ⟨m, hF⟩ := I.fr
  show wpAny (model X.prog X.w) X.A (richCompare .Eq (.ref a) (.ref b)) (EP X pins σ Q) X.xe s
  refine PySem.W.cmp_K (op := .Eq) (tb := .ref C) hr.units0 hF I.ok.mod.kin J J'.type (by simp [PySem.W.notFirst]) hs hf ?_
  refine wpAny_mono (run_atF (us := [.ref a, .ref b]) (vs := [.ref a, .ref b]) Fk hr hb I.env0 I (.cons rfl (.cons rfl .nil)) q) (fun r s' z => ?_) fun _ _ z => z
  obtain ⟨v, H', I', rv, k, rfl, q'⟩ := z
  cases rv
  exact (⟨.bl k, H', I', rfl, q'⟩ : EP X pins σ Q (.bool k) s')
theorem op_neOwn (Fk : FnOk X.prog X.w X.K X.mg X.base CX0 n f fd ps sp) (hr : Room (n + 1) X.A) (hb : Binds X.K fd ps []) (hs : PySem.W.findIn X.K (.ref C) "__eq__" = some (some (.ref f))) (hf : PySem.W.isFn X.K (.ref f) = true)
    (hn : PySem.W.findIn X.K (.ref C) "__ne__" = some (some (.builtin "object.__ne__"))) (hm : PySem.W.mroIn X.K C (.type "object") = some true) : OpR X (compareOp .NotEq) (rOwnI C sp true) := by
  intro pins s σ H x y v u Q I rx ry h
  obtain ⟨a, dx, fs, b, dy, gs, rfl, rfl, ha, hb', q⟩ := h
  cases (show v = Value.ref a from rx)
  cases (show u = Value.ref b from ry)
  obtain ⟨o, od, o', od', J, J'⟩ := two_inst I ha hb'
  show wpAny (model X.prog X.w) X.A (richCompare .NotEq (.ref a) (.ref b)) (EP X pins σ Q) X.xe s
  refine ne_K (by have := hr.units; omega) I.kIn J J' hm hn hs hf ?_
  refine wpAny_mono (run_atF (us := [.ref a, .ref b]) (vs := [.ref a, .ref b]) Fk hr.in1 hb I.env0.in1 I (.cons rfl (.cons rfl .nil)) q) (fun r s' z => ?_) fun _ _ z => z
  obtain ⟨v, H', I', rv, k, rfl, q'⟩ := z
  cases rv
  exact ⟨k, rfl, .bl (!k), H', I', rfl, q'⟩
end
end L3
namespace L3s
open PySem PySem.SeqAt
open AutoSeq1 (wpAny_loadPart')
open MeetsSeq MeetsSeq2 MeetsSeq3 SeqRoads2
/-! ### x in a tuple of such -/
section
variable {prog : Program} {w : World} {A : Around} {R : Result → Shared → Prop}
theorem tuple_containsG (l : Addr) (items : Array Value) (n : Nat) (dd : Option Addr) (sl : Array (Option Value)) (x : Value) (e : Nat → Bool) (I : Nat → Shared → Prop)
    (turn : ∀ i (h1 : i < items.size) s, I i s → wpAny (model prog w) A.in1 (eqBool items[i] x) (fun r s' => r = e i ∧ I (i + 1) s') (fun e s' => R (.error e) s') s)
    (hit : ∀ i s, i < items.size → e i = true → I (i + 1) s → R (.ok (.ret (.bool true))) s)
    (fin : ∀ s, I items.size s → (∀ i, i < items.size → e i = false) → R (.ok (.ret (.bool false))) s) {s : Shared} (hl1 : s.heap.get? l = some { cls := .type "tuple", dict := dd, data := .seq items n, slots := sl }) (h : I 0 s) :
    wpAny (model prog w) A.in1 (Builtin.«tuple.__contains__» ⟨[.ref l, x], []⟩) (GQ.FinOf prog w A R) (fun e s' => R (.error e) s') s := by
  have h0 := h
  obtain ⟨hp, g, d, tk, os⟩ := s
  wp_walk using wpAny_loadPart' hl1, wpAny_forIn_array _ (fun rest b s' => b.1 = none ∧ ∃ i, rest = items.toList.drop i ∧ i ≤ items.size ∧ I i s' ∧ ∀ j, j < i → e j = false) _
  case turn =>
    rintro y rest b s' ⟨hb', i, hz, hi, hI, hf⟩
    have h1 : i < items.size := by
      rcases Nat.lt_or_ge i items.size with h' | h'
      · exact h'
      · rw [List.drop_of_length_le (by simpa using h')] at hz; cases hz
    rw [List.drop_eq_getElem_cons (by simpa using h1)] at hz
    injection hz with hy hrest
    have hy : y = items[i] := by simpa using hy
    subst hy
    refine wpAny_bind (wpAny_mono (turn i h1 s' hI) (fun r s2 q2 => ?_) fun _ _ x => x)
    obtain ⟨hr, q2⟩ := q2
    subst hr
    cases he : e i with
    | true =>
      wp_walk
      exact hit i _ h1 he q2
    | false =>
      wp_walk
      refine ⟨rfl, i + 1, hrest, h1, q2, fun j hj => ?_⟩
      rcases Nat.lt_succ_iff_lt_or_eq.mp hj with z | z
      · exact hf j z
      · subst z; exact he
  case fin =>
    rintro ⟨b1, b2⟩ s' ⟨hb', i, hz, hi, hI, hf⟩
    simp only at hb'
    subst hb'
    have hge : items.size ≤ i := by
      rcases Nat.lt_or_ge i items.size with h' | h'
      · rw [List.drop_eq_getElem_cons (by simpa using h')] at hz; cases hz
      · exact h'
    have hi' : i = items.size := by omega
    subst hi'
    have hR : R (.ok (.ret (.bool false))) s' := fin s' hI hf
    wp_walk
    exact hR
  case h =>
    exact ⟨rfl, 0, rfl, Nat.zero_le _, h0, fun j hj => absurd hj (Nat.not_lt_zero j)⟩
end
end L3s
set_option maxHeartbeats 4000000
namespace L3
open PySem L2 RZ

/-! ### forms: ==, !=, isinstance, in a tuple -/
def dEqF : Dat → Dat → Option Dat
  | .frm a b c, .frm a' b' c' => some (.bl (decide (a = a' ∧ b = b' ∧ c = c')))
  | _, _ => none
def dNeF : Dat → Dat → Option Dat
  | .frm a b c, .frm a' b' c' => some (.bl (!decide (a = a' ∧ b = b' ∧ c = c')))
  | _, _ => none
def dEqFm : List Dat → Option Dat
  | [x, y] => dEqF x y
  | _ => none
structure EqOk (P : Program) (w : World) (K : PySem.W.Frag) (mg : Str → Option Value) (base : Heap) (C : Addr) (k : Nat) : Prop where
  ex : ∃ (g : Addr) (fd : FuncData) (ps : List Str), FnOk P w K mg base CX0 k g fd ps (SpF C 2 dEqFm) ∧ Binds K fd ps [] ∧ PySem.W.findIn K (.ref C) "__eq__" = some (some (.ref g)) ∧ PySem.W.isFn K (.ref g) = true ∧
    PySem.W.findIn K (.ref C) "__ne__" = some (some (.builtin "object.__ne__")) ∧ PySem.W.mroIn K C (.type "object") = some true
section
variable {C : Addr} {X : Cx} {e a b c o : Expr} {es : List Expr} {pos p p2 p3 : Pos} {f fa fb fc fd : En → Option Dat} {la lb : En → Option (List Dat)} {ua ub uc ud ue : TE} {ga gb : TA} {tg iter : Expr} {k : Nat}
theorem frm_of {Hk H : Hp} {x : V} {d : Dat} (r : Rp C Hk d x) (l : Le Hk H) {a b c : Int} (e : d = .frm a b c) : ∃ p dx fs, x = .ref p ∧ H p = some (.ins C dx fs) := by
  subst e
  obtain ⟨p, rfl, h⟩ := r.frm
  obtain ⟨dx, fs, h⟩ := h.ins
  exact ⟨p, dx, fs, rfl, l _ _ h⟩
theorem dEqF_inv {x y d : Dat} (h : dEqF x y = some d) : ∃ a b c a' b' c', x = .frm a b c ∧ y = .frm a' b' c' ∧ d = .bl (decide (a = a' ∧ b = b' ∧ c = c')) := by
  cases x <;> cases y <;> simp only [dEqF, reduceCtorEq] at h <;> cases h
  exact ⟨_, _, _, _, _, _, rfl, rfl, rfl⟩
theorem dNeF_inv {x y d : Dat} (h : dNeF x y = some d) : ∃ a b c a' b' c', x = .frm a b c ∧ y = .frm a' b' c' ∧ d = .bl (!decide (a = a' ∧ b = b' ∧ c = c')) := by
  cases x <;> cases y <;> simp only [dNeF, reduceCtorEq] at h <;> cases h
  exact ⟨_, _, _, _, _, _, rfl, rfl, rfl⟩
theorem okr_eqF : OkR C (rOwnI C (SpF C 2 dEqFm) false) dEqF := fun Hk H x y u v d hl ra rb e Q q => by
  obtain ⟨a, b, c, a', b', c', rfl, rfl, rfl⟩ := dEqF_inv e
  obtain ⟨p, dx, fs, rfl, h1⟩ := frm_of ra hl rfl
  obtain ⟨p', dx', fs', rfl, h2⟩ := frm_of rb hl rfl
  refine ⟨p, dx, fs, p', dx', fs', rfl, rfl, h1, h2, rfl, Hk, [_, _], _, hl, rpl_cons ra (rpl_cons rb rpl_nil), e, fun v Hk' H' n r => ?_⟩
  exact ⟨_, r.bl, q _ Hk' H' n rp_bl⟩
theorem okr_neF : OkR C (rOwnI C (SpF C 2 dEqFm) true) dNeF := fun Hk H x y u v d hl ra rb e Q q => by
  obtain ⟨a, b, c, a', b', c', rfl, rfl, rfl⟩ := dNeF_inv e
  obtain ⟨p, dx, fs, rfl, h1⟩ := frm_of ra hl rfl
  obtain ⟨p', dx', fs', rfl, h2⟩ := frm_of rb hl rfl
  refine ⟨p, dx, fs, p', dx', fs', rfl, rfl, h1, h2, rfl, Hk, [_, _], .bl (decide (a = a' ∧ b = b' ∧ c = c')), hl, rpl_cons ra (rpl_cons rb rpl_nil), rfl, fun v Hk' H' n r => ?_⟩
  exact ⟨_, r.bl, q _ Hk' H' n rp_bl⟩
theorem op_eqF (D : EqOk X.prog X.w X.K X.mg X.base C k) (hr : Room k X.A) : OpR X (compareOp .Eq) (rOwnI C (SpF C 2 dEqFm) false) := by
  obtain ⟨g, fd, ps, Fk, hb, h1, h2, h3, h4⟩ := D.ex
  exact op_eqOwn Fk hr hb h1 h2
theorem op_neF (D : EqOk X.prog X.w X.K X.mg X.base C k) (hr : Room (k + 1) X.A) : OpR X (compareOp .NotEq) (rOwnI C (SpF C 2 dEqFm) true) := by
  obtain ⟨g, fd, ps, Fk, hb, h1, h2, h3, h4⟩ := D.ex
  exact op_neOwn Fk hr hb h1 h2 h3 h4
theorem se_eqF (D : EqOk X.prog X.w X.K X.mg X.base C k) (hr : Room k X.A) (ha : SE X C a ua fa) (hb : SE X C b ub fb) : SE X C (.Compare a [.Eq] [b] pos) (tOp (rOwnI C (SpF C 2 dEqFm) false) ua ub) (f2 dEqF fa fb) := se_cmpR (op_eqF D hr) okr_eqF ha hb (nomark _)
theorem st_eqF (D : EqOk X.prog X.w X.K X.mg X.base C k) (hr : Room k X.A) (ha : SE X C a ua fa) (hb : SE X C b ub fb) : ST X C (.Compare a [.Eq] [b] pos) (tTest (tOp (rOwnI C (SpF C 2 dEqFm) false) ua ub)) (fB (f2 dEqF fa fb)) := st_cmpR (op_eqF D hr) okr_eqF ha hb (nomark _)
theorem se_neF (D : EqOk X.prog X.w X.K X.mg X.base C k) (hr : Room (k + 1) X.A) (ha : SE X C a ua fa) (hb : SE X C b ub fb) : SE X C (.Compare a [.NotEq] [b] pos) (tOp (rOwnI C (SpF C 2 dEqFm) true) ua ub) (f2 dNeF fa fb) := se_cmpR (op_neF D hr) okr_neF ha hb (nomark _)
theorem st_neF (D : EqOk X.prog X.w X.K X.mg X.base C k) (hr : Room (k + 1) X.A) (ha : SE X C a ua fa) (hb : SE X C b ub fb) : ST X C (.Compare a [.NotEq] [b] pos) (tTest (tOp (rOwnI C (SpF C 2 dEqFm) true) ua ub)) (fB (f2 dNeF fa fb)) := st_cmpR (op_neF D hr) okr_neF ha hb (nomark _)
/-- isinstance(x, Form) -/
def dIsForm : Dat → Option Dat
  | .frm _ _ _ => some (.bl true)
  | _ => none
theorem se_isForm {x : Str} (ic : C8.InsC X.K C) (hm : X.mg "isinstance" = none) (hx : X.mg x = some (.ref C)) (ha : SE X C a ua f) (hgx : Gl X x := by rfl) (hxd : (x == ("__debug__" : Str)) = false := by decide)
    (hg : Gl X "isinstance" := by rfl) (hs1 : starEach [a, .Name x p2] X.env = (false, eval a X.env) :: starEach [.Name x p2] X.env := by rfl) (hs2 : starEach [.Name x p2] X.env = [(false, eval (.Name x p2) X.env)] := by rfl)
    (hpl : (backTo pos (starEach [.Name x p2] X.env)).any (·.1) = false := by rfl) :
    SE X C (.Call (.Name "isinstance" p) [a, .Name x p2] [] pos) (tCB (fun xs H Q => ∃ a dx fs, xs = [.ref a, .ref C] ∧ H a = some (.ins C dx fs) ∧ Q (.bl true) H) (tCons ua (tCons (tC (.ref C)) tNil))) (f1 dIsForm f) := by
  refine ⟨pe_callB (C8.call_isC ic) hg hm (by decide +kernel) (pa_cons ha.p (pa_cons (pe_glob hgx hx (v := .ref C) rfl hxd) pa_nil hs2) hs1) (by decide) (by decide) hs1 hpl, fun Hk H σ ρ d r e Q q => ?_⟩
  unfold f1 at e
  obtain ⟨y, e1, e⟩ := Option.bind_eq_some_iff.mp e
  cases y <;> simp only [dIsForm, reduceCtorEq] at e
  cases e
  refine ha.o Hk H σ ρ _ r e1 _ fun v Hk1 H1 n1 r1 => ?_
  obtain ⟨p, dx, fs, rfl, h1⟩ := frm_of r1 n1.kh rfl
  exact ⟨p, dx, fs, rfl, h1, q _ Hk1 H1 n1 rp_bl⟩
/-- x in t -/
def hitsF (a b c : Int) : List Dat → Option Bool
  | [] => some false
  | .frm a' b' c' :: ds => (hitsF a b c ds).bind fun r => some (decide (a' = a ∧ b' = b ∧ c' = c) || r)
  | _ :: _ => none
def dInF : Dat → Dat → Option Dat
  | .frm a b c, .tup ds => (hitsF a b c ds).bind fun r => some (.bl r)
  | _, _ => none
theorem hitsF_all {a b c : Int} : ∀ {ds : List Dat} {r : Bool}, hitsF a b c ds = some r → ∃ e : Nat → Bool, (∀ i, i < ds.length → ∃ a' b' c', ds[i]? = some (.frm a' b' c') ∧ e i = decide (a' = a ∧ b' = b ∧ c' = c)) ∧ (r = true ↔ ∃ i, i < ds.length ∧ e i = true)
  | [], r, h => by
    cases h
    exact ⟨fun _ => false, fun i h => absurd h (Nat.not_lt_zero i), by simp⟩
  | d :: ds, r, h => by
    cases d <;> simp only [hitsF, reduceCtorEq] at h
    rename_i a' b' c'
    obtain ⟨r', h1, h⟩ := Option.bind_eq_some_iff.mp h
    cases h
    obtain ⟨e, h2, h3⟩ := hitsF_all h1
    refine ⟨fun i => match i with | 0 => decide (a' = a ∧ b' = b ∧ c' = c) | i + 1 => e i, fun i hi => ?_, ?_⟩
    · cases i with
      | zero => exact ⟨a', b', c', rfl, rfl⟩
      | succ i =>
        obtain ⟨x, y, z, h4, h5⟩ := h2 i (by simpa using hi)
        exact ⟨x, y, z, by simpa using h4, h5⟩
    · rw [Bool.or_eq_true_iff, h3]
      constructor
      · rintro (h | ⟨i, h4, h5⟩)
        · exact ⟨0, Nat.succ_pos _, h⟩
        · exact ⟨i + 1, by simpa using h4, h5⟩
      · rintro ⟨i, h4, h5⟩
        cases i with
        | zero => exact .inl h5
        | succ i => exact .inr ⟨i, by simpa using h4, h5⟩
def rInF (C : Addr) : R2 := fun x y H Q => ∃ (Hk : Hp) (d e : Dat) (k : Bool), Le Hk H ∧ Rp C Hk d x ∧ Rp C Hk e y ∧ dInF d e = some (.bl k) ∧ ∀ Hk' H', Nx Hk H Hk' H' → Q (.bl k) H'
theorem op_inF (D : EqOk X.prog X.w X.K X.mg X.base C k) (hr : Room (k + 1) X.A) : OpR X (compareOp .In) (rInF C) := by
  obtain ⟨g, fd, ps, Fk, hb, h1, h2, h3, h4⟩ := D.ex
  intro pins s σ H x y v u Q I rx ry h
  obtain ⟨Hk, d, t, r, hl, rd, rt, hh, q⟩ := h
  have hh' : ∃ a b c ds, d = .frm a b c ∧ t = .tup ds ∧ hitsF a b c ds = some r := by
    cases d <;> cases t <;> simp only [dInF, reduceCtorEq] at hh
    obtain ⟨r', e1, e2⟩ := Option.bind_eq_some_iff.mp hh
    cases e2
    exact ⟨_, _, _, _, rfl, rfl, e1⟩
  obtain ⟨a, b, c, ds, rfl, rfl, hit⟩ := hh'
  obtain ⟨e, he, hr'⟩ := hitsF_all hit
  obtain ⟨px, rfl, fx⟩ := rd.frm
  obtain ⟨l, xs, rfl, h5, h6⟩ := rt.tup
  cases (show v = Value.ref px from rx)
  cases (show u = Value.ref l from ry)
  obtain ⟨its, rv, p, hz⟩ := I.tuple (SqT.of (hl _ _ h5))
  obtain ⟨⟨cls, dd, data, sl⟩, ho, hc, n, hd⟩ := id p
  simp only at hc hd
  subst hc hd
  have hlen : its.toArray.size = ds.length := by rw [List.size_toArray, ← rv.length, h6.length]
  show wpAny (model X.prog X.w) X.A (do return Value.bool (← contains (.ref l) (.ref px))) (EP X pins σ Q) X.xe s
  refine wpAny_bind (wpAny_contains_slot ⟨_, ho, rfl⟩ PySem.F.slot_tuple_contains (GQ.call_here PySem.F.slot_tuple_contains ⟨_, ho, rfl⟩ PySem.F.entry_tuple_contains (PySem.F.args_tuple_contains_2 _ _) ?_))
  refine L3s.tuple_containsG (R := wants (fun r s' => wpAny (model X.prog X.w) X.A (truthy r) (fun b s'' => wpAny (model X.prog X.w) X.A (pure (Value.bool b)) (EP X pins σ Q) X.xe s'') X.xe s') X.xe) l its.toArray n dd sl (.ref px) e (fun _ s1 => ∃ Hk1 H1, Nx Hk H Hk1 H1 ∧ Inv X pins σ H1 s1) (fun i hi s1 hI => ?_) (fun i s1 hi he' hI => ?_) (fun s1 hI hf => ?_) ho ⟨Hk, H, Nx.refl hl, I⟩
  · obtain ⟨Hk1, H1, n1, I1⟩ := hI
    obtain ⟨a', b', c', e1, e2⟩ := he i (by omega)
    obtain ⟨x, e3, r3⟩ := h6.get e1
    obtain ⟨py, rfl, fy⟩ := r3.frm
    obtain ⟨u', hu', ru'⟩ := rv.get e3
    cases (show u' = Value.ref py from ru')
    have ei : its.toArray[i] = Value.ref py := by
      have : its.toArray[i]? = some (Value.ref py) := by simpa using hu'
      rw [Array.getElem?_eq_getElem hi] at this
      exact Option.some.inj this
    rw [ei, e2]
    by_cases hpp : py = px
    · subst hpp
      have eq : a' = a ∧ b' = b ∧ c' = c := by
        obtain ⟨_, t1, q1, _, _, _, _, _, _, w1, k1, k2, k3, _⟩ := fy
        obtain ⟨_, t2, q2, _, _, _, _, _, _, w2, l1, l2, l3, _⟩ := fx
        rw [k1] at l1; cases l1
        rw [k2] at l2; cases l2
        rw [k3] at l3; cases l3
        exact ⟨rfl, rfl, rfl⟩
      rw [decide_eq_true eq]
      exact SeqAt.EqAt.same (A := X.A.in1) (s := s1) (.ref py) X.prog X.w _ _ ⟨rfl, Hk1, H1, n1, I1⟩
    · refine GQ.eqBool_refG hpp ?_
      obtain ⟨dx, fs, i1⟩ := fy.ins
      obtain ⟨dy, gs, i2⟩ := fx.ins
      obtain ⟨o, od, o', od', K1, K2⟩ := two_inst I1 (n1.hh _ _ (hl _ _ i1)) (n1.hh _ _ (hl _ _ i2))
      obtain ⟨m, hF⟩ := I1.fr
      refine PySem.W.cmp_K (op := .Eq) (tb := .ref C) hr.in1.units0 hF I1.ok.mod.kin K1 K2.type (by simp [PySem.W.notFirst]) h1 h2 ?_
      have hsp : SpF C 2 dEqFm [.ref py, .ref px] H1 (fun v H' => v = .bl (decide (a' = a ∧ b' = b ∧ c' = c)) ∧ ∃ Hk2, Nx Hk H Hk2 H') E0 :=
        ⟨rfl, Hk1, [_, _], _, n1.kh, rpl_cons (r3.mono n1.kk) (rpl_cons (rd.mono n1.kk) rpl_nil), rfl, fun v Hk' H' n2 r2 => ⟨r2.bl, Hk', n1.trans n2⟩⟩
      refine wpAny_mono (run_atF (us := [.ref py, .ref px]) (vs := [.ref py, .ref px]) Fk hr.in1 hb I1.env0.in1 I1 (.cons rfl (.cons rfl .nil)) hsp) (fun r s' z => ?_) fun _ _ z => z
      obtain ⟨v, H', I', rv', rfl, Hk2, n2⟩ := z
      cases rv'
      exact (⟨_, rfl, rfl, Hk2, H', n2, I'⟩ : ∃ r, Value.bool (decide (a' = a ∧ b' = b ∧ c' = c)) = Value.bool r ∧ r = decide (a' = a ∧ b' = b ∧ c' = c) ∧ ∃ Hk2 H', Nx Hk H Hk2 H' ∧ Inv X pins σ H' s')
  · obtain ⟨Hk1, H1, n1, I1⟩ := hI
    have : r = true := hr'.mpr ⟨i, by omega, he'⟩
    subst this
    exact wpAny_truthy_bool (wpAny_pure ⟨.bl true, H1, I1, rfl, q Hk1 H1 n1⟩)
  · obtain ⟨Hk1, H1, n1, I1⟩ := hI
    have : r = false := by
      cases r with
      | false => rfl
      | true =>
        obtain ⟨i, h7, h8⟩ := hr'.mp rfl
        rw [hf i (by omega)] at h8; cases h8
    subst this
    exact wpAny_truthy_bool (wpAny_pure ⟨.bl false, H1, I1, rfl, q Hk1 H1 n1⟩)
theorem okr_inF : OkR C (rInF C) dInF := fun Hk H x y u v d hl ra rb e Q q => by
  have : ∃ k, d = .bl k := by
    cases u <;> cases v <;> simp only [dInF, reduceCtorEq] at e
    obtain ⟨r', e1, e2⟩ := Option.bind_eq_some_iff.mp e
    cases e2
    exact ⟨_, rfl⟩
  obtain ⟨k, rfl⟩ := this
  exact ⟨Hk, u, v, k, hl, ra, rb, e, fun Hk' H' n => q _ Hk' H' n rp_bl⟩
theorem se_inF (D : EqOk X.prog X.w X.K X.mg X.base C k) (hr : Room (k + 1) X.A) (ha : SE X C a ua fa) (hb : SE X C b ub fb) (hm : behindInMarks .In b = false := by rfl) : SE X C (.Compare a [.In] [b] pos) (tOp (rInF C) ua ub) (f2 dInF fa fb) := se_cmpR (op_inF D hr) okr_inF ha hb hm
end
end L3
set_option maxHeartbeats 4000000
namespace L3
open PySem L2 RZ

/-! ### the table UNKNOWNS (asked for 3 alone) -/
theorem entB_ok {e : DictEntry} {k v : Int} (h : entB e k v = true) : e.hash = k ∧ (∃ t, e.key = .int k t) ∧ ∃ t, e.val = .int v t := by
  unfold entB at h
  obtain ⟨h1, h⟩ := He.ba h
  obtain ⟨h2, h3⟩ := He.ba h
  exact ⟨of_decide_eq_true h1, Value.isInt_shape h2, Value.isInt_shape h3⟩
theorem unk_dict {K : PySem.W.Frag} {h : Heap} {P : Program} {w : World} (u : unkB K = true) (X : K.In h) : (He.ga K "UNKNOWNS" == sysModules) = false ∧ ∃ (t1 t2 t3 t4 : Tok), h.DictOf (mixKind P w) (He.ga K "UNKNOWNS") [(.inl 3, .int 2 t1), (.inl 6, .int 3 t2), (.inl 10, .int 4 t3), (.inl 15, .int 5 t4)] := by
  unfold unkB at u
  obtain ⟨u0, u⟩ := He.ba u
  refine ⟨by simpa using u0, ?_⟩
  split at u
  · rename_i es n sl e
    obtain ⟨us, u⟩ := He.ba u
    have us := of_decide_eq_true us
    split at u
    · rename_i e1 e2 e3 e4 el
      obtain ⟨a1, u⟩ := He.ba u
      obtain ⟨a2, u⟩ := He.ba u
      obtain ⟨a3, a4⟩ := He.ba u
      obtain ⟨k1, ⟨s1, k2⟩, t1, k3⟩ := entB_ok a1
      obtain ⟨l1, ⟨s2, l2⟩, t2, l3⟩ := entB_ok a2
      obtain ⟨m1, ⟨s3, m2⟩, t3, m3⟩ := entB_ok a3
      obtain ⟨n1, ⟨s4, n2⟩, t4, n3⟩ := entB_ok a4
      have is1 : keyIs (.inl 3) e1.key = true := by rw [k2]; exact keyIs_int _ _
      have is2 : keyIs (.inl 6) e2.key = true := by rw [l2]; exact keyIs_int _ _
      have is3 : keyIs (.inl 10) e3.key = true := by rw [m2]; exact keyIs_int _ _
      have is4 : keyIs (.inl 15) e4.key = true := by rw [n2]; exact keyIs_int _ _
      have hsl : sl = #[] := Array.eq_empty_of_size_eq_zero us
      refine ⟨t1, t2, t3, t4, _, es, _, X _ _ e, ⟨rfl, rfl, hsl⟩, rfl, fun x hx => ?_, ?_, (by decide : ([.inl 3, .inl 6, .inl 10, .inl 15] : List Key).Nodup)⟩
      · have : x ∈ es.toList := by simpa using hx
        rw [el] at this
        simp only [List.mem_cons, List.not_mem_nil, or_false] at this
        rcases this with z | z | z | z <;> subst z
        · exact ⟨.inl 3, is1, by rw [k1]; exact (by decide +kernel : (3 : Int) = hashInt 3)⟩
        · exact ⟨.inl 6, is2, by rw [l1]; exact (by decide +kernel : (6 : Int) = hashInt 6)⟩
        · exact ⟨.inl 10, is3, by rw [m1]; exact (by decide +kernel : (10 : Int) = hashInt 10)⟩
        · exact ⟨.inl 15, is4, by rw [n1]; exact (by decide +kernel : (15 : Int) = hashInt 15)⟩
      · rw [el]
        exact .cons is1 k3 (.cons is2 l3 (.cons is3 m3 (.cons is4 n3 .nil)))
    · cases u
  · cases u
def dNinU : Dat → Option Dat
  | .int 3 => some (.bl false)
  | _ => none
def dIxU : Dat → Option Dat
  | .int 3 => some (.int 2)
  | _ => none
theorem dNinU_inv {x d : Dat} (h : dNinU x = some d) : x = .int 3 ∧ d = .bl false := by
  unfold dNinU at h
  split at h
  · cases h; exact ⟨rfl, rfl⟩
  · cases h
theorem dIxU_inv {x d : Dat} (h : dIxU x = some d) : x = .int 3 ∧ d = .int 2 := by
  unfold dIxU at h
  split at h
  · cases h; exact ⟨rfl, rfl⟩
  · cases h
section
variable {C : Addr} {X : Cx} {e a b c o : Expr} {es : List Expr} {pos p p2 p3 : Pos} {f fa fb fc fd : En → Option Dat} {la lb : En → Option (List Dat)} {ua ub uc ud ue : TE} {ga gb : TA} {tg iter : Expr} {k : Nat}
theorem op_ninU (u : UnkOk X.K X.mg) : OpR X (compareOp .NotIn) (fun x y H Q => x = .int 3 ∧ y = .ref (He.ga X.K "UNKNOWNS") ∧ Q (.bl false) H) := by
  intro pins s σ H x y v w Q I rx ry h
  obtain ⟨rfl, rfl, q⟩ := h
  cases (show w = Value.ref _ from ry)
  obtain ⟨t, e⟩ := (show ∃ t, v = Value.int 3 t from rx)
  subst e
  obtain ⟨hd, t1, t2, t3, t4, D⟩ := unk_dict (P := X.prog) (w := X.w) u.un I.kIn
  refine wpAny_notIn_of (k := Sum.inl 3) (keyIs_int 3 t) hd D.mapOf ?_
  exact ⟨.bl false, H, I.tok _, rfl, q⟩
theorem st_ninU (u : UnkOk X.K X.mg) (ha : SE X C a ua f) (hg : Gl X "UNKNOWNS" := by rfl) : ST X C (.Compare a [.NotIn] [.Name "UNKNOWNS" p] pos) (tTest (tOp (fun x y H Q => x = .int 3 ∧ y = .ref (He.ga X.K "UNKNOWNS") ∧ Q (.bl false) H) ua (tC (.ref (He.ga X.K "UNKNOWNS"))))) (fB (f1 dNinU f)) :=
  ⟨pt_cmpR (op_ninU u) ha.p (pe_glob hg u.mg (v := .ref (He.ga X.K "UNKNOWNS")) rfl) rfl, ok_test fun Hk H σ ρ d r e Q q => by
    unfold f1 at e
    obtain ⟨y, e1, e⟩ := Option.bind_eq_some_iff.mp e
    obtain ⟨rfl, rfl⟩ := dNinU_inv e
    refine ha.o Hk H σ ρ _ r e1 _ fun v Hk1 H1 n1 r1 => ?_
    exact ⟨r1.int, rfl, q _ Hk1 H1 n1 rp_bl⟩⟩
theorem se_ixU (u : UnkOk X.K X.mg) (ha : SE X C a ua f) (hg : Gl X "UNKNOWNS" := by rfl) (hs : NoSl a := by exact fun _ _ => rfl) : SE X C (.Subscript (.Name "UNKNOWNS" p) a pos) (tOp (fun x y H Q => x = .ref (He.ga X.K "UNKNOWNS") ∧ y = .int 3 ∧ Q (.int 2) H) (tC (.ref (He.ga X.K "UNKNOWNS"))) ua) (f1 dIxU f) := by
  refine ⟨⟨fun pins s σ H Q I h => ?_⟩, fun Hk H σ ρ d r e Q q => ?_⟩
  · have hp : PE X (.Name "UNKNOWNS" p) (tC (.ref (He.ga X.K "UNKNOWNS"))) := pe_glob hg u.mg rfl
    refine subD_of PySem.F.slot_dict_getitem.lookup hs (thn (hp.run pins s σ H _ I h) fun v s1 ⟨x, H1, I1, rx, q1⟩ => thn (ha.p.run pins s1 σ H1 _ I1 q1) fun iv s2 ⟨y, H2, I2, ry, ex, ey, q2⟩ => ?_)
    subst ex ey
    cases (show v = Value.ref _ from rx)
    obtain ⟨t, e⟩ := (show ∃ t, iv = Value.int 3 t from ry)
    subst e
    obtain ⟨hd, t1, t2, t3, t4, D⟩ := unk_dict (P := X.prog) (w := X.w) u.un I2.kIn
    exact ⟨D.typeIs, wpAny_getItem_of (k := Sum.inl 3) (keyIs_int 3 t) D.mapOf rfl ⟨.int 2, H2, I2.tok _, ⟨t1, rfl⟩, q2⟩⟩
  · unfold f1 at e
    obtain ⟨y, e1, e⟩ := Option.bind_eq_some_iff.mp e
    obtain ⟨rfl, rfl⟩ := dIxU_inv e
    refine ha.o Hk H σ ρ _ r e1 _ fun v Hk1 H1 n1 r1 => ?_
    exact ⟨rfl, r1.int, q _ Hk1 H1 n1 rp_int⟩
/-! ### data of no forms, against [] and () -/
mutual
def pd : Dat → Option PyData
  | .non => some .none
  | .bl b => some (.bool b)
  | .int i => some (.int i)
  | .str s => some (.str s)
  | .tup ds => (pdL ds).bind fun ps => some (.tuple ps)
  | .lst ds => (pdL ds).bind fun ps => some (.list ps)
  | .frm _ _ _ => none
  | .dic _ _ => none
def pdL : List Dat → Option (List PyData)
  | [] => some []
  | d :: ds => (pd d).bind fun p => (pdL ds).bind fun ps => some (p :: ps)
end
mutual
theorem pd_dp {K : PySem.W.Frag} {Hk H : Hp} (l : Le Hk H) : ∀ {d : Dat} {v : V} {p : PyData}, Rp C Hk d v → pd d = some p → Dp K H v p
  | .non, v, p, r, e => by cases e; rw [r.non]; exact .non
  | .bl b, v, p, r, e => by cases e; rw [r.bl]; exact .bl b
  | .int i, v, p, r, e => by cases e; rw [r.int]; exact .int i
  | .str s, v, p, r, e => by cases e; rw [r.str]; exact .str s
  | .tup ds, v, p, r, e => by
    unfold pd at e
    obtain ⟨ps, e1, e⟩ := Option.bind_eq_some_iff.mp e
    cases e
    obtain ⟨a, xs, rfl, h1, h2⟩ := r.tup
    exact .tup (SqT.of (l _ _ h1)) (pdL_dp l h2 e1)
  | .lst ds, v, p, r, e => by
    unfold pd at e
    obtain ⟨ps, e1, e⟩ := Option.bind_eq_some_iff.mp e
    cases e
    obtain ⟨a, xs, rfl, h1, h2⟩ := r.lst
    exact .lst (SqL.of (l _ _ h1)) (pdL_dp l h2 e1)
  | .frm _ _ _, v, p, r, e => by cases e
  | .dic _ _, v, p, r, e => by cases e
theorem pdL_dp {K : PySem.W.Frag} {Hk H : Hp} (l : Le Hk H) : ∀ {ds : List Dat} {vs : List V} {ps : List PyData}, RpL C Hk ds vs → pdL ds = some ps → DpAll K H vs ps
  | [], vs, ps, r, e => by cases e; rw [r.nil]; exact .nil
  | d :: ds, vs, ps, r, e => by
    unfold pdL at e
    obtain ⟨p, e1, e⟩ := Option.bind_eq_some_iff.mp e
    obtain ⟨qs, e2, e⟩ := Option.bind_eq_some_iff.mp e
    cases e
    obtain ⟨x, t, rfl, h1, h2⟩ := r.cons
    exact .cons (pd_dp l h1 e1) (pdL_dp l h2 e2)
end
def shp (p : PyData) : Option PyData := if SeqAt.shaped p = true then some p else none
theorem shp_some {p q : PyData} (h : shp p = some q) : q = p ∧ SeqAt.shaped p = true := by
  unfold shp at h
  split at h
  · rename_i z; cases h; exact ⟨rfl, z⟩
  · cases h
def dEqNil (ds : List Dat) : Option Dat := (pdL ds).bind fun ps => (shp (.list ps)).bind fun _ => some (.bl ds.isEmpty)
def dNeNil (ds : List Dat) : Option Dat := (pdL ds).bind fun ps => (shp (.list ps)).bind fun _ => some (.bl (!ds.isEmpty))
theorem pdL_empty : ∀ {ds : List Dat} {ps : List PyData}, pdL ds = some ps → PyData.eqv (.list ps) (.list []) = ds.isEmpty
  | [], ps, h => by cases h; simp [PyData.eqv, PyData.eqvAll]
  | d :: ds, ps, h => by
    unfold pdL at h
    obtain ⟨p, e1, e⟩ := Option.bind_eq_some_iff.mp h
    obtain ⟨qs, e2, e⟩ := Option.bind_eq_some_iff.mp e
    cases e
    simp [PyData.eqv, PyData.eqvAll]
theorem shaped_nil : SeqAt.shaped (.list []) = true := by decide +kernel
theorem st_eqNil {p1 : Pos} (hu : X.A.units + 64 < cLine) (ha : SW X C a ua la) : ST X C (.Compare a [.Eq] [.List [] p1] pos) (tTest (tOp (rEqD X.K) ua (tLst tNil))) (fB (fC dEqNil la)) := by
  refine ⟨pt_cmpR (op_eqD hu) ha.p (pe_lst pa_nil) (nomark _), ok_test fun Hk H σ ρ d r e Q q => ?_⟩
  unfold fC at e
  obtain ⟨ds, e1, e⟩ := Option.bind_eq_some_iff.mp e
  unfold dEqNil at e
  obtain ⟨ps, e2, e⟩ := Option.bind_eq_some_iff.mp e
  obtain ⟨z, e3, e⟩ := Option.bind_eq_some_iff.mp e
  cases e
  obtain ⟨rfl, hsh⟩ := shp_some e3
  refine ha.o Hk H σ ρ ds r e1 _ fun l xs Hk1 H1 n1 h1 r1 => ?_
  refine ⟨Nat.zero_le _, fun p hp => ?_⟩
  have n2 : Nx Hk1 H1 Hk1 (upd H1 p (.lst [])) := Nx.own n1.kh hp
  refine ⟨.list ps, .list [], .lst (SqL.of (n2.hh _ _ h1)) (pdL_dp n2.kh r1 e2), .lst (SqL.of upd_same) .nil, hsh, shaped_nil, ?_⟩
  rw [pdL_empty e2]
  exact q _ Hk1 _ (n1.trans n2) rp_bl
theorem ok_neNil (ha : OkW C ua la) : OkE C (tOp (rNeD X.K) ua (tLst tNil)) (fC dNeNil la) := fun Hk H σ ρ d r e Q q => by
  unfold fC at e
  obtain ⟨ds, e1, e⟩ := Option.bind_eq_some_iff.mp e
  unfold dNeNil at e
  obtain ⟨ps, e2, e⟩ := Option.bind_eq_some_iff.mp e
  obtain ⟨z, e3, e⟩ := Option.bind_eq_some_iff.mp e
  cases e
  obtain ⟨rfl, hsh⟩ := shp_some e3
  refine ha Hk H σ ρ ds r e1 _ fun l xs Hk1 H1 n1 h1 r1 => ?_
  refine ⟨Nat.zero_le _, fun p hp => ?_⟩
  have n2 : Nx Hk1 H1 Hk1 (upd H1 p (.lst [])) := Nx.own n1.kh hp
  refine ⟨.list ps, .list [], .lst (SqL.of (n2.hh _ _ h1)) (pdL_dp n2.kh r1 e2), .lst (SqL.of upd_same) .nil, hsh, shaped_nil, ?_⟩
  rw [pdL_empty e2]
  exact q _ Hk1 _ (n1.trans n2) rp_bl
theorem st_neNil {p1 : Pos} (hu : X.A.units + 64 < cLine) (ha : SW X C a ua la) : ST X C (.Compare a [.NotEq] [.List [] p1] pos) (tTest (tOp (rNeD X.K) ua (tLst tNil))) (fB (fC dNeNil la)) :=
  ⟨pt_cmpR (op_neD hu) ha.p (pe_lst pa_nil) (nomark _), ok_test (ok_neNil ha.o)⟩
theorem se_neNil {p1 : Pos} (hu : X.A.units + 64 < cLine) (ha : SW X C a ua la) : SE X C (.Compare a [.NotEq] [.List [] p1] pos) (tOp (rNeD X.K) ua (tLst tNil)) (fC dNeNil la) :=
  ⟨pe_cmpR (op_neD hu) ha.p (pe_lst pa_nil) (nomark _), ok_neNil ha.o⟩
/-- any two data of no forms -/
def dEqD (x y : Dat) : Option Dat := (pd x).bind fun p => (pd y).bind fun q => (shp p).bind fun _ => (shp q).bind fun _ => some (.bl (PyData.eqv p q))
def dNeD (x y : Dat) : Option Dat := (pd x).bind fun p => (pd y).bind fun q => (shp p).bind fun _ => (shp q).bind fun _ => some (.bl (!PyData.eqv p q))
theorem okr_eqD {K : PySem.W.Frag} : OkR C (rEqD K) dEqD := fun Hk H x y a b d hl ra rb e Q q => by
  unfold dEqD at e
  obtain ⟨p, e1, e⟩ := Option.bind_eq_some_iff.mp e
  obtain ⟨p', e2, e⟩ := Option.bind_eq_some_iff.mp e
  obtain ⟨z, e3, e⟩ := Option.bind_eq_some_iff.mp e
  obtain ⟨z', e4, e⟩ := Option.bind_eq_some_iff.mp e
  cases e
  exact ⟨p, p', pd_dp hl ra e1, pd_dp hl rb e2, (shp_some e3).2, (shp_some e4).2, q _ Hk H (Nx.refl hl) rp_bl⟩
theorem okr_neD {K : PySem.W.Frag} : OkR C (rNeD K) dNeD := fun Hk H x y a b d hl ra rb e Q q => by
  unfold dNeD at e
  obtain ⟨p, e1, e⟩ := Option.bind_eq_some_iff.mp e
  obtain ⟨p', e2, e⟩ := Option.bind_eq_some_iff.mp e
  obtain ⟨z, e3, e⟩ := Option.bind_eq_some_iff.mp e
  obtain ⟨z', e4, e⟩ := Option.bind_eq_some_iff.mp e
  cases e
  exact ⟨p, p', pd_dp hl ra e1, pd_dp hl rb e2, (shp_some e3).2, (shp_some e4).2, q _ Hk H (Nx.refl hl) rp_bl⟩
theorem se_eqD (hu : X.A.units + 64 < cLine) (ha : SE X C a ua fa) (hb : SE X C b ub fb) : SE X C (.Compare a [.Eq] [b] pos) (tOp (rEqD X.K) ua ub) (f2 dEqD fa fb) := se_cmpR (op_eqD hu) okr_eqD ha hb (nomark _)
theorem se_neD (hu : X.A.units + 64 < cLine) (ha : SE X C a ua fa) (hb : SE X C b ub fb) : SE X C (.Compare a [.NotEq] [b] pos) (tOp (rNeD X.K) ua ub) (f2 dNeD fa fb) := se_cmpR (op_neD hu) okr_neD ha hb (nomark _)
end
end L3
set_option maxHeartbeats 4000000
namespace L3
open PySem L2 RZ
section
variable {C : Addr} {X : Cx} {e a b c o : Expr} {es : List Expr} {pos p p2 p3 : Pos} {f fa fb fc fd : En → Option Dat} {la lb : En → Option (List Dat)} {ua ub uc ud ue : TE} {ga gb : TA} {tg iter : Expr} {k : Nat} {kS : List Dat → En → Option En} {gs : TGs} {vs : List Nat}
theorem se_ixTK {K : PySem.W.Frag} (ha : SE X C a ua fa) (hb : SE X C b ub fb) (hs : PlainIx b := by exact fun _ _ => rfl) (hK : X.K = K := by rfl) : SE X C (.Subscript a b pos) (tOp (rIxT K) ua ub) (f2 dIxT fa fb) := by
  subst hK
  exact se_ixT (ha := ha) (hb := hb) (hs := hs)
theorem se_ixLK {K : PySem.W.Frag} (ha : SW X C a ua la) (hb : SE X C b ub fb) (hs : PlainIx b := by exact fun _ _ => rfl) (hK : X.K = K := by rfl) : SE X C (.Subscript a b pos) (tOp (rIxL K) ua ub) (fIxL la fb) := by
  subst hK
  exact se_ixL (ha := ha) (hb := hb) (hs := hs)
theorem se_ixK {K : PySem.W.Frag} (ha : SQ X C a ua la) (hb : SE X C b ub fb) (hs : PlainIx b := by exact fun _ _ => rfl) (hK : X.K = K := by rfl) : SE X C (.Subscript a b pos) (tOp (rIx K) ua ub) (fIxL la fb) := by
  subst hK
  exact se_ix (ha := ha) (hb := hb) (hs := hs)
theorem se_lenK {K : PySem.W.Frag} (hm : X.mg "len" = none) (ha : SQ X C e ue la) (hg : Gl X "len" := by rfl) (he : starEach [e] X.env = [(false, eval e X.env)] := by rfl) (hK : X.K = K := by rfl) : SE X C (.Call (.Name "len" p) [e] [] pos) (tCB (fun xs H Q => ∃ p ys, xs = [.ref p] ∧ (SqL K H p ys ∨ SqT K H p ys) ∧ Q (.int ys.length) H) (tCons ue tNil)) (fC dLen la) := by
  subst hK
  exact se_len (hm := hm) (ha := ha) (hg := hg) (he := he)
theorem se_tupofK {K : PySem.W.Frag} (hm : X.mg "tuple" = none) (ha : SQ X C e ue la) (hg : Gl X "tuple" := by rfl) (he : starEach [e] X.env = [(false, eval e X.env)] := by rfl) (hK : X.K = K := by rfl) : SE X C (.Call (.Name "tuple" p) [e] [] pos) (tCB (fun xs H Q => ∃ p ys, xs = [.ref p] ∧ ((SqL K H p ys ∧ ∀ l, H l = none → Q (.ref l) (upd H l (.tup ys))) ∨ (SqT K H p ys ∧ Q (.ref p) H))) (tCons ue tNil)) (fC dTup la) := by
  subst hK
  exact se_tupof (hm := hm) (ha := ha) (hg := hg) (he := he)
theorem se_sumK {K : PySem.W.Frag} (hc : X.calm = true) (hm : X.mg "sum" = none) (ha : SW X C e ue la) (hg : Gl X "sum" := by rfl) (he : starEach [e] X.env = [(false, eval e X.env)] := by rfl) (hK : X.K = K := by rfl) : SE X C (.Call (.Name "sum" p) [e] [] pos) (tCB (rSum K) (tCons ue tNil)) (fC dSum la) := by
  subst hK
  exact se_sum (hc := hc) (hm := hm) (ha := ha) (hg := hg) (he := he)
theorem se_anyK {K : PySem.W.Frag} (hc : X.calm = true) (hm : X.mg "any" = none) (ha : SW X C e ue la) (hg : Gl X "any" := by rfl) (he : starEach [e] X.env = [(false, eval e X.env)] := by rfl) (hK : X.K = K := by rfl) : SE X C (.Call (.Name "any" p) [e] [] pos) (tCB (rAny K) (tCons ue tNil)) (fC dAny la) := by
  subst hK
  exact se_any (hc := hc) (hm := hm) (ha := ha) (hg := hg) (he := he)
theorem se_allK {K : PySem.W.Frag} (hc : X.calm = true) (hm : X.mg "all" = none) (ha : SW X C e ue la) (hg : Gl X "all" := by rfl) (he : starEach [e] X.env = [(false, eval e X.env)] := by rfl) (hK : X.K = K := by rfl) : SE X C (.Call (.Name "all" p) [e] [] pos) (tCB (rAll K) (tCons ue tNil)) (fC dAll la) := by
  subst hK
  exact se_all (hc := hc) (hm := hm) (ha := ha) (hg := hg) (he := he)
theorem se_maxLK {K : PySem.W.Frag} (hc : X.calm = true) (hm : X.mg "max" = none) (ha : SW X C e ue la) (hg : Gl X "max" := by rfl) (he : starEach [e] X.env = [(false, eval e X.env)] := by rfl) (hK : X.K = K := by rfl) : SE X C (.Call (.Name "max" p) [e] [] pos) (tCB (rMax K) (tCons ue tNil)) (fC dMaxL la) := by
  subst hK
  exact se_maxL (hc := hc) (hm := hm) (ha := ha) (hg := hg) (he := he)
theorem sl_listofK {K : PySem.W.Frag} (hm : X.mg "list" = none) (ha : SQ X C e ue la) (hg : Gl X "list" := by rfl) (he : starEach [e] X.env = [(false, eval e X.env)] := by rfl) (hK : X.K = K := by rfl) : SL X C (.Call (.Name "list" p) [e] [] pos) (tCB (fun xs H Q => ∃ p ys, xs = [.ref p] ∧ (SqL K H p ys ∨ SqT K H p ys) ∧ ∀ l, H l = none → Q (.ref l) (upd H l (.lst ys))) (tCons ue tNil)) la := by
  subst hK
  exact sl_listof (hm := hm) (ha := ha) (hg := hg) (he := he)
theorem sl_revK {K : PySem.W.Frag} {k : Nat} {p1 p2 p3 : Pos} (ha : SW X C a ua la) (hK : X.K = K := by rfl) : SL X C (.Subscript a (.Slice none none (some (.UnaryOp .USub (.Constant (.int 1) k p1) p2)) p3) pos) (tRevL K ua) (fun ρ => (la ρ).bind fun ds => some ds.reverse) := by
  subst hK
  exact sl_rev (ha := ha)
theorem sl_dropK {K : PySem.W.Frag} {p2 : Pos} (ha : SW X C a ua la) (hb : SE X C b ub fb) (hK : X.K = K := by rfl) : SL X C (.Subscript a (.Slice (some b) none none p2) pos) (tSl (rSlL K) ua (tPart ub) tNoPart) (fDrop la fb) := by
  subst hK
  exact sl_drop (ha := ha) (hb := hb)
theorem sl_takeK {K : PySem.W.Frag} {p2 : Pos} (ha : SW X C a ua la) (hb : SE X C b ub fb) (hK : X.K = K := by rfl) : SL X C (.Subscript a (.Slice none (some b) none p2) pos) (tSl (rSlL K) ua tNoPart (tPart ub)) (fTake la fb) := by
  subst hK
  exact sl_take (ha := ha) (hb := hb)
theorem se_takeTK {K : PySem.W.Frag} {p2 : Pos} {k : Nat} {j} (ha : SE X C a ua fa) {p3 : Pos} (hK : X.K = K := by rfl) : SE X C (.Subscript a (.Slice none (some (.Constant (.int (k : Int)) j p3)) none p2) pos) (tSl (rSlT K) ua tNoPart (tPart (tC (.int (k : Int))))) (fTakeT k fa) := by
  subst hK
  exact se_takeT (ha := ha)
theorem si_seqK {K : PySem.W.Frag} (ha : SE X C iter ue f) (hK : X.K = K := by rfl) : SI X C tg iter (tOrI (iList K ue) (iTup K ue)) (fSq f) := by
  subst hK
  exact si_seq (ha := ha)
theorem siw_owK {K : PySem.W.Frag} (ha : SW X C iter ue la) (hK : X.K = K := by rfl) : SIw X C tg iter (iList K ue) la := by
  subst hK
  exact siw_ow (ha := ha)
theorem si_zipK {K : PySem.W.Frag} {elts : List Expr} {kk : Nat} {tpos : Pos} (hm : X.mg "zip" = none) (ha : SA X C [a, b] ga la) (hg : Gl X "zip" := by rfl) (hs : starEach [a, b] X.env = (false, eval a X.env) :: starEach [b] X.env := by rfl) (hpl : (backTo pos (starEach [b] X.env)).any (·.1) = false := by rfl) (hK : X.K = K := by rfl) : SI X C (.Tuple elts kk tpos) (.Call (.Name "zip" p) [a, b] [] pos) (iZipA K ga) (fun ρ => (la ρ).bind dZip) := by
  subst hK
  exact si_zip (hm := hm) (ha := ha) (hg := hg) (hs := hs) (hpl := hpl)
theorem sg_tupK {K : PySem.W.Frag} {kk : Nat} (hc : X.calm = true) (hh : SGs X C es vs gs kS) (hn : (assignEach es X.env).length = es.length := by rfl) (hst : (assignEach es X.env).findIdx? (·.1) = none := by rfl) (hK : X.K = K := by rfl) : SG X C (.Tuple es kk pos) vs (gTup K es.length gs) (gT kS) := by
  subst hK
  exact sg_tup (hc := hc) (hh := hh) (hn := hn) (hst := hst)
theorem se_isiK {K : PySem.W.Frag} {x : Str} (hm : X.mg "isinstance" = none) (hx : X.mg x = none) (ha : SE X C a ua f) (T : Ty) (hv : bootBuiltins x = some (.type T.nm) := by decide +kernel) (hgx : Gl X x := by rfl) (hxn : x ≠ "__name__" := by decide) (hxd : (x == ("__debug__" : Str)) = false := by decide) (hg : Gl X "isinstance" := by rfl) (hs1 : starEach [a, .Name x p2] X.env = (false, eval a X.env) :: starEach [.Name x p2] X.env := by rfl) (hs2 : starEach [.Name x p2] X.env = [(false, eval (.Name x p2) X.env)] := by rfl) (hpl : (backTo pos (starEach [.Name x p2] X.env)).any (·.1) = false := by rfl) (hK : X.K = K := by rfl) : SE X C (.Call (.Name "isinstance" p) [a, .Name x p2] [] pos) (tCB (rIsi K) (tCons ua (tCons (tC (.ty T.nm)) tNil))) (f1 (dIsi T) f) := by
  subst hK
  exact se_isi (hm := hm) (hx := hx) (ha := ha) (T := T) (hv := hv) (hgx := hgx) (hxn := hxn) (hxd := hxd) (hg := hg) (hs1 := hs1) (hs2 := hs2) (hpl := hpl)
theorem st_ninTK {K : PySem.W.Frag} {x1 : Nat} {p1 : Pos} (ha : SE X C a ua fa) (hb : SA X C es ga la) (hz : es.length ≤ 1000 := by decide) (hK : X.K = K := by rfl) : ST X C (.Compare a [.NotIn] [.Tuple es x1 p1] pos) (tTest (tOp (rIn K true) ua (tTup ga))) (fB (fNinT fa la)) := by
  subst hK
  exact st_ninT (ha := ha) (hb := hb) (hz := hz)
theorem si_enumK {K : PySem.W.Frag} {elts : List Expr} {kk : Nat} {tpos : Pos} (hm : X.mg "enumerate" = none) (ha : SE X C a ua f) (hg : Gl X "enumerate" := by rfl) (hs : starEach [a] X.env = [(false, eval a X.env)] := by rfl) (hK : X.K = K := by rfl) : SI X C (.Tuple elts kk tpos) (.Call (.Name "enumerate" p) [a] [] pos) (iEnumT K (tCons ua tNil)) (fEnum f) := by
  subst hK
  exact si_enum (hm := hm) (ha := ha) (hg := hg) (hs := hs)
theorem st_eqNilK {K : PySem.W.Frag} {p1 : Pos} (hu : X.A.units + 64 < cLine) (ha : SW X C a ua la) (hK : X.K = K := by rfl) : ST X C (.Compare a [.Eq] [.List [] p1] pos) (tTest (tOp (rEqD K) ua (tLst tNil))) (fB (fC dEqNil la)) := by
  subst hK
  exact st_eqNil (hu := hu) (ha := ha)
theorem st_neNilK {K : PySem.W.Frag} {p1 : Pos} (hu : X.A.units + 64 < cLine) (ha : SW X C a ua la) (hK : X.K = K := by rfl) : ST X C (.Compare a [.NotEq] [.List [] p1] pos) (tTest (tOp (rNeD K) ua (tLst tNil))) (fB (fC dNeNil la)) := by
  subst hK
  exact st_neNil (hu := hu) (ha := ha)
theorem se_neNilK {K : PySem.W.Frag} {p1 : Pos} (hu : X.A.units + 64 < cLine) (ha : SW X C a ua la) (hK : X.K = K := by rfl) : SE X C (.Compare a [.NotEq] [.List [] p1] pos) (tOp (rNeD K) ua (tLst tNil)) (fC dNeNil la) := by
  subst hK
  exact se_neNil (hu := hu) (ha := ha)
theorem se_eqDK {K : PySem.W.Frag} (hu : X.A.units + 64 < cLine) (ha : SE X C a ua fa) (hb : SE X C b ub fb) (hK : X.K = K := by rfl) : SE X C (.Compare a [.Eq] [b] pos) (tOp (rEqD K) ua ub) (f2 dEqD fa fb) := by
  subst hK
  exact se_eqD (hu := hu) (ha := ha) (hb := hb)
theorem se_neDK {K : PySem.W.Frag} (hu : X.A.units + 64 < cLine) (ha : SE X C a ua fa) (hb : SE X C b ub fb) (hK : X.K = K := by rfl) : SE X C (.Compare a [.NotEq] [b] pos) (tOp (rNeD K) ua ub) (f2 dNeD fa fb) := by
  subst hK
  exact se_neD (hu := hu) (ha := ha) (hb := hb)
theorem st_ninUK {K : PySem.W.Frag} (u : UnkOk X.K X.mg) (ha : SE X C a ua f) (hg : Gl X "UNKNOWNS" := by rfl) (hK : X.K = K := by rfl) : ST X C (.Compare a [.NotIn] [.Name "UNKNOWNS" p] pos) (tTest (tOp (fun x y H Q => x = .int 3 ∧ y = .ref (He.ga K "UNKNOWNS") ∧ Q (.bl false) H) ua (tC (.ref (He.ga K "UNKNOWNS"))))) (fB (f1 dNinU f)) := by
  subst hK
  exact st_ninU (u := u) (ha := ha) (hg := hg)
theorem se_ixUK {K : PySem.W.Frag} (u : UnkOk X.K X.mg) (ha : SE X C a ua f) (hg : Gl X "UNKNOWNS" := by rfl) (hs : NoSl a := by exact fun _ _ => rfl) (hK : X.K = K := by rfl) : SE X C (.Subscript (.Name "UNKNOWNS" p) a pos) (tOp (fun x y H Q => x = .ref (He.ga K "UNKNOWNS") ∧ y = .int 3 ∧ Q (.int 2) H) (tC (.ref (He.ga K "UNKNOWNS"))) ua) (f1 dIxU f) := by
  subst hK
  exact se_ixU (u := u) (ha := ha) (hg := hg) (hs := hs)
end
end L3
set_option maxHeartbeats 4000000
namespace L3
open PySem L2 RZ
open Sem (wp)

/-! ### zip of a list and a tuple -/
def ItzM (K : PySem.W.Frag) (a b : Addr) : It :=
  ⟨fun i H => ∃ (xs ys : List V) (x y : V), SqL K H a xs ∧ SqT K H b ys ∧ xs[i]? = some x ∧ ys[i]? = some y,
    fun i H v H' => ∃ T x y, v = .ref T ∧ H T = none ∧ H' = upd H T (.tup [x, y]) ∧ (∀ xs, SqL K H a xs → xs[i]? = some x) ∧ ∀ ys, SqT K H b ys → ys[i]? = some y,
    fun i H => ∃ xs ys : List V, SqL K H a xs ∧ SqT K H b ys ∧ i = min xs.length ys.length⟩
theorem turn_zipM {P : Program} {w : World} {K : PySem.W.Frag} {elts : List Expr} {kk : Nat} {tpos : Pos} {a b z TI TO i1 i2 : Addr} (D : ZipSep2 z TI TO i1 i2 [i1, a] [i2, b]) (n1 : a ≠ i1) (n2 : b ≠ i2) :
    Turn P w K (.Tuple elts kk tpos) (ItzM K a b) [z, TI, TO, i1, i2] z (fun i h => IsZip h z TI TO .none ∧ IsTupOf2 h TI (.ref i1) (.ref i2) ∧ (∃ x y, IsTupOf2 h TO x y) ∧ h.IsListIter i1 a i ∧ h.IsTupleIter i2 b i) where
  mem := by simp
  obj := fun i h st c hc => by
    obtain ⟨hz, hTI, ⟨x, y, hTO⟩, ⟨o1, e1, _, d1⟩, ⟨o2, e2, _, d2⟩⟩ := st
    have e' : c = z ∨ c = TI ∨ c = TO ∨ c = i1 ∨ c = i2 := by simpa using hc
    rcases e' with q | q | q | q | q
    · rw [q]; exact ⟨_, hz, fun v q => nomatch q⟩
    · rw [q]; exact ⟨_, hTI, fun v q => nomatch q⟩
    · rw [q]; exact ⟨_, hTO, fun v q => nomatch q⟩
    · rw [q]; exact ⟨o1, e1, fun v q => by rw [d1] at q; cases q⟩
    · rw [q]; exact ⟨o2, e2, fun v q => by rw [d2] at q; cases q⟩
  keep := fun i h h' st k => by
    obtain ⟨hz, hTI, ⟨x, y, hTO⟩, h1, h2⟩ := st
    exact ⟨k z (by simp) _ hz, k TI (by simp) _ hTI, ⟨x, y, k TO (by simp) _ hTO⟩, h1.at fun o q => k i1 (by simp) o q, h2.at fun o q => k i2 (by simp) o q⟩
  item := by
    intro X hP hw hK hc i pins s σ H E I hf st hg
    subst hP hw hK
    obtain ⟨hz, hTI, ⟨x0, y0, hTO⟩, h1, h2⟩ := st
    obtain ⟨xs, ys, x, y, hqx, hqy, hx, hy⟩ := hg
    obtain ⟨its, rv, p, _⟩ := I.list hqx
    obtain ⟨its2, rv2, p2, _⟩ := I.tuple hqy
    obtain ⟨u, hu, ru⟩ := rv.get hx
    obtain ⟨u2, hu2, ru2⟩ := rv2.get hy
    have hzl : z < s.heap.objs.size := Heap.lt_size hz
    have hh : X.A.in1.handled = none := I.ok.hd hc
    have D1 := Draws.list (prog := X.prog) (w := X.w) hh i1 a n1 its.toArray
    have D2 := Draws.tuple (prog := X.prog) (w := X.w) hh i2 b n2 its2.toArray
    have lt1 : i < its.toArray.size := by
      have := (List.getElem?_eq_some_iff.mp hu).1
      simpa using this
    have lt2 : i < its2.toArray.size := by
      have := (List.getElem?_eq_some_iff.mp hu2).1
      simpa using this
    refine wpAny_pyNext_zipD2_item D D1 D2 hz hTI hTO ⟨h1, p.isList⟩ ⟨h2, p2⟩ lt1 lt2 fun y1 y2 h' tk q1 q2 z' TO' h1' h2' hT hsz hk => ?_
    have ey1 : y1 = u := by
      have : some y1 = some u := by rw [← hu, ← q1]; simp
      exact Option.some.inj this
    have ey2 : y2 = u2 := by
      have : some y2 = some u2 := by rw [← hu2, ← q2]; simp
      exact Option.some.inj this
    subst ey1 ey2
    refine ⟨_, rfl, wpAny_letOwnedTupleGo_zip (s := { s with heap := h', toks := tk }) z' fun h'' z'' sb => ?_⟩
    have hT2 : h''.get? s.heap.objs.size = some { cls := .type "tuple", data := .seq #[y1, y2] } := (sb.2 _ (Nat.ne_of_gt hzl)).trans hT
    have new : ObjOk X.prog X.w (upd H s.heap.objs.size (.tup [x, y])) h'' s.heap.objs.size (.tup [x, y]) :=
      ⟨by show 2 ≤ sizeLine; decide, [y1, y2], .cons ru (.cons ru2 .nil), ⟨_, hT2, rfl, _, rfl⟩⟩
    have I1 : Inv X pins σ (upd H s.heap.objs.size (.tup [x, y])) { s with heap := h'', toks := tk } :=
      I.turnedNew (t' := tk) (ch := [z, TI, TO, i1, i2]) (fun c o hb q => (sb.2 c (fun q' => hb (by simp [q']))).trans (hk c o (fun q' => hb (by simp [q'])) (fun q' => hb (by simp [q'])) (fun q' => hb (by simp [q'])) (fun q' => hb (by simp [q'])) q)) hf (Nat.le_refl _) new
    refine ⟨.ref s.heap.objs.size, _, I1, rfl, ⟨_, x, y, rfl, I.hok.fresh (Nat.le_refl _), rfl, fun l hl => by rw [I.list_inj hl hqx]; exact hx, fun l hl => by rw [I.tuple_inj hl hqy]; exact hy⟩, ⟨z'', ?_, ⟨y1, y2, ?_⟩, ?_, ?_⟩, fun c hcm => ?_⟩
    · exact (sb.2 _ D.TIz).trans (hk _ _ D.TIz D.TITO D.TIi1 D.TIi2 hTI)
    · exact (sb.2 _ D.TOz).trans TO'
    · exact h1'.1.at fun o q => (sb.2 _ (Ne.symm D.zi1)).trans q
    · exact h2'.1.at fun o q => (sb.2 _ (Ne.symm D.zi2)).trans q
    · have hlt : c < s.heap.objs.size := by
        have e' : c = z ∨ c = TI ∨ c = TO ∨ c = i1 ∨ c = i2 := by simpa using hcm
        rcases e' with q | q | q | q | q
        · rw [q]; exact hzl
        · rw [q]; exact Heap.lt_size hTI
        · rw [q]; exact Heap.lt_size hTO
        · rw [q]; obtain ⟨_, e1, _⟩ := h1; exact Heap.lt_size e1
        · rw [q]; obtain ⟨_, e2, _⟩ := h2; exact Heap.lt_size e2
      rw [upd_ne (Nat.ne_of_lt hlt)]
      exact (hf c hcm).1
  done := by
    intro X hP hw hK hc i pins s σ H E I hf st hg
    subst hP hw hK
    obtain ⟨hz, hTI, ⟨x0, y0, hTO⟩, h1, h2⟩ := st
    obtain ⟨xs, ys, hqx, hqy, hend⟩ := hg
    obtain ⟨its, rv, p, _⟩ := I.list hqx
    obtain ⟨its2, rv2, p2, _⟩ := I.tuple hqy
    have l1 := rv.length
    have l2 := rv2.length
    have s1 : its.toArray.size = its.length := by simp
    have s2 : its2.toArray.size = its2.length := by simp
    have hh : X.A.in1.handled = none := I.ok.hd hc
    have D1 := Draws.list (prog := X.prog) (w := X.w) hh i1 a n1 its.toArray
    have D2 := Draws.tuple (prog := X.prog) (w := X.w) hh i2 b n2 its2.toArray
    exact wpAny_pyNext_zipD2_end D D1 D2 hz hTI hTO ⟨h1, p.isList⟩ ⟨h2, p2⟩ (by omega) (by omega) (by omega) fun h' tk hk => ⟨rfl, I.turnedL (t' := tk) (ch := [z, TI, TO, i1, i2]) (fun c o hb q =>
      hk c o (fun q' => hb (by simp [q'])) (fun q' => hb (by simp [q'])) (fun q' => hb (by simp [q'])) (fun q' => hb (by simp [q'])) q) hf⟩
  self := fun A i s Q E st h => wpAny_pyIter_zip st.1 h
def iZipM (K : PySem.W.Frag) (ta : TA) : TI := fun σ H R => ta σ H fun vs H1 => ∃ a b xs ys, vs = [.ref a, .ref b] ∧ SqL K H1 a xs ∧ SqT K H1 b ys ∧ R (ItzM K a b) H1
theorem pi_zipM {X : Cx} {e e2 : Expr} {ta : TA} {p pos tpos : Pos} {elts : List Expr} {kk : Nat} (hg : Gl X "zip") (hm : X.mg "zip" = none) (ha : PA X [e, e2] ta)
    (hs : starEach [e, e2] X.env = (false, eval e X.env) :: starEach [e2] X.env := by rfl) (hpl : (backTo pos (starEach [e2] X.env)).any (·.1) = false := by rfl) :
    PI X (.Tuple elts kk tpos) (.Call (.Name "zip" p) [e, e2] [] pos) (iZipM X.K ta) := by
  refine ⟨fun pins s σ H R I h => ?_⟩
  refine PyProof.Rows.Call_ (ld_blt I hg hm PyProof.Rows.boot_zip (PyProof.Rows.callWith_type1 (thn (ha.run pos pins s σ H _ I h) fun us s1 ⟨vs, H1, I1, r1, q1⟩ => ?_) hs hpl))
  obtain ⟨a, b, xs, ys, ex, hqx, hqy, q⟩ := q1
  subst ex
  cases r1 with
  | cons r rr =>
    cases rr with
    | cons r' rr =>
      cases rr
      cases r
      cases r'
      obtain ⟨its, rv, p1, _⟩ := I1.list hqx
      obtain ⟨its2, rv2, p2, _⟩ := I1.tuple hqy
      have la : a < s1.heap.objs.size := p1.lt
      have lb : b < s1.heap.objs.size := by obtain ⟨_, e, _⟩ := p2; exact Heap.lt_size e
      have sep : ZipSep2 (s1.heap.objs.size + 4) (s1.heap.objs.size + 2) (s1.heap.objs.size + 3) s1.heap.objs.size (s1.heap.objs.size + 1) (s1.heap.objs.size :: [a]) ((s1.heap.objs.size + 1) :: [b]) :=
        zip_sep2 (fun c hc => by rw [List.mem_singleton.mp hc]; exact la) (fun c hc => by rw [List.mem_singleton.mp hc]; exact lb)
      refine zip_begins2 (begins_list a its.toArray) (begins_tuple b its2.toArray) p1.isList p2 fun h' hz hTI hTO h1 h2 hsz hk => wpAny_pyIter_zip hz ?_
      have I2 : Inv X pins σ H1 { s1 with heap := h' } := I1.kept (t' := s1.toks) hk
      refine ⟨s1.heap.objs.size + 4, [s1.heap.objs.size + 4, s1.heap.objs.size + 2, s1.heap.objs.size + 3, s1.heap.objs.size, s1.heap.objs.size + 1], _, _, H1, rfl, I2, turn_zipM sep (Nat.ne_of_lt la) (Nat.ne_of_lt (Nat.lt_succ_of_lt lb)), ⟨hz, hTI, ⟨_, _, hTO⟩, ⟨_, h1, rfl, rfl⟩, ⟨_, h2, rfl, rfl⟩⟩, fun c hcm => ?_, q⟩
      have e' : c = s1.heap.objs.size + 4 ∨ c = s1.heap.objs.size + 2 ∨ c = s1.heap.objs.size + 3 ∨ c = s1.heap.objs.size ∨ c = s1.heap.objs.size + 1 := by simpa using hcm
      have hle : s1.heap.objs.size ≤ c := by
        rcases e' with z | z | z | z | z
        · rw [z]; exact Nat.le_add_right _ _
        · rw [z]; exact Nat.le_add_right _ _
        · rw [z]; exact Nat.le_add_right _ _
        · rw [z]; exact Nat.le_refl _
        · rw [z]; exact Nat.le_add_right _ _
      exact I1.fpOk hle (I1.hok.fresh hle)
/-- zip of a new list and a tuple -/
theorem wk_zipM {K : PySem.W.Frag} {C l m : Addr} {xs ys : List V} {ds es : List Dat} {Hk Hb : Hp} (h1 : Hb l = some (.lst xs)) (h3 : Hk m = some (.tup ys)) (kb : Le Hk Hb) (r1 : RpL C Hk ds xs) (r2 : RpL C Hk es ys) : Wk C (ItzM K l m) Hk Hb (zipD ds es) where
  go := fun i H hi l' => by
    rw [zipD_length] at hi
    have k1 := r1.length
    have k2 := r2.length
    have h1' : i < xs.length := by omega
    have h2' : i < ys.length := by omega
    exact ⟨xs, ys, xs[i], ys[i], SqL.of (l' _ _ h1), SqT.of (l' _ _ (kb _ _ h3)), by simp [h1'], by simp [h2']⟩
  stop := fun H l' => ⟨xs, ys, SqL.of (l' _ _ h1), SqT.of (l' _ _ (kb _ _ h3)), by rw [r1.length, r2.length, zipD_length]⟩
  yld := fun i H x H' hi l' y Hk1 k1 k2 => by
    obtain ⟨T, a, b, rfl, hT, rfl, ha, hb⟩ := y
    obtain ⟨d1, e1, p1⟩ := r1.get' (ha xs (SqL.of (l' _ _ h1)))
    obtain ⟨d2, e2, p2⟩ := r2.get' (hb ys (SqT.of (l' _ _ (kb _ _ h3))))
    have n2 : Nx Hk1 H _ _ := Nx.new (o := .tup [a, b]) k2 hT
    exact ⟨_, _, zipD_get e1 e2, n2, rp_tup upd_same (rpl_cons (p1.mono (k1.trans n2.kk)) (rpl_cons (p2.mono (k1.trans n2.kk)) rpl_nil))⟩
end L3
set_option maxHeartbeats 4000000
namespace L3
open PySem L2 RZ

/-! ### a list of two lists that the def owns (table_for) -/
structure TbI (C : Addr) (Hk0 H0 Hk H : Hp) (D p q : Addr) (x1 x2 y1 y2 : Int) : Prop where
  kk : Le Hk0 Hk
  kh : Le Hk H
  fr : Le H0 H
  sp : ∀ l, Hk0 l = none → H0 l ≠ none → Hk l = none
  dD : Hk D = none
  dp : Hk p = none
  dq : Hk q = none
  nDp : D ≠ p
  nDq : D ≠ q
  npq : p ≠ q
  fD : H0 D = none
  fp : H0 p = none
  fq : H0 q = none
  hD : H D = some (.lst [.ref p, .ref q])
  hp : H p = some (.lst [.int x1, .int x2])
  hq : H q = some (.lst [.int y1, .int y2])
section
variable {C : Addr} {Hk0 H0 Hk H Hk2 H2 : Hp} {D p q : Addr} {x1 x2 y1 y2 : Int}
theorem TbI.nx (t : TbI C Hk0 H0 Hk H D p q x1 x2 y1 y2) (n : Nx Hk H Hk2 H2) : TbI C Hk0 H0 Hk2 H2 D p q x1 x2 y1 y2 where
  kk := t.kk.trans n.kk
  kh := n.kh
  fr := t.fr.trans n.hh
  sp := fun l e z => n.sp l (t.sp l e z) fun w => z (t.fr.free w)
  dD := n.sp D t.dD (by rw [t.hD]; intro z; cases z)
  dp := n.sp p t.dp (by rw [t.hp]; intro z; cases z)
  dq := n.sp q t.dq (by rw [t.hq]; intro z; cases z)
  nDp := t.nDp
  nDq := t.nDq
  npq := t.npq
  fD := t.fD
  fp := t.fp
  fq := t.fq
  hD := n.hh _ _ t.hD
  hp := n.hh _ _ t.hp
  hq := n.hh _ _ t.hq
theorem le_out {p : Addr} {o : HO} (h : Le Hk H) (d : Hk p = none) : Le Hk (upd H p o) := fun a u e => by
  have z : a ≠ p := fun z => by subst z; rw [d] at e; cases e
  rw [upd_ne z]; exact h a u e
theorem TbI.setP (t : TbI C Hk0 H0 Hk H D p q x1 x2 y1 y2) (z1 z2 : Int) : TbI C Hk0 H0 Hk (upd H p (.lst [.int z1, .int z2])) D p q z1 z2 y1 y2 where
  kk := t.kk
  kh := le_out t.kh t.dp
  fr := le_out t.fr t.fp
  sp := t.sp
  dD := t.dD
  dp := t.dp
  dq := t.dq
  nDp := t.nDp
  nDq := t.nDq
  npq := t.npq
  fD := t.fD
  fp := t.fp
  fq := t.fq
  hD := by rw [upd_ne t.nDp]; exact t.hD
  hp := upd_same
  hq := by rw [upd_ne (Ne.symm t.npq)]; exact t.hq
theorem TbI.setQ (t : TbI C Hk0 H0 Hk H D p q x1 x2 y1 y2) (z1 z2 : Int) : TbI C Hk0 H0 Hk (upd H q (.lst [.int z1, .int z2])) D p q x1 x2 z1 z2 where
  kk := t.kk
  kh := le_out t.kh t.dq
  fr := le_out t.fr t.fq
  sp := t.sp
  dD := t.dD
  dp := t.dp
  dq := t.dq
  nDp := t.nDp
  nDq := t.nDq
  npq := t.npq
  fD := t.fD
  fp := t.fp
  fq := t.fq
  hD := by rw [upd_ne t.nDq]; exact t.hD
  hp := by rw [upd_ne t.npq]; exact t.hp
  hq := upd_same
/-- the three lists become known -/
theorem TbI.frz (t : TbI C Hk0 H0 Hk H D p q x1 x2 y1 y2) : ∃ Hk', Le Hk Hk' ∧ Le Hk' H ∧ (∀ l, Hk0 l = none → H0 l ≠ none → Hk' l = none) ∧ Rp C Hk' (.lst [.lst [.int x1, .int x2], .lst [.int y1, .int y2]]) (.ref D) := by
  let f : Hp := fun l => if l = D then H D else if l = p then H p else if l = q then H q else Hk l
  have fD : f D = H D := if_pos rfl
  have fp : f p = H p := by
    show (if p = D then H D else if p = p then H p else if p = q then H q else Hk p) = _
    rw [if_neg (Ne.symm t.nDp), if_pos rfl]
  have fq : f q = H q := by
    show (if q = D then H D else if q = p then H p else if q = q then H q else Hk q) = _
    rw [if_neg (Ne.symm t.nDq), if_neg (Ne.symm t.npq), if_pos rfl]
  have fo : ∀ l, l ≠ D → l ≠ p → l ≠ q → f l = Hk l := fun l a b c => by
    show (if l = D then H D else if l = p then H p else if l = q then H q else Hk l) = _
    rw [if_neg a, if_neg b, if_neg c]
  refine ⟨f, fun l o e => ?_, fun l o e => ?_, fun l e n => ?_, ?_⟩
  · rw [fo l (fun z => by rw [z, t.dD] at e; cases e) (fun z => by rw [z, t.dp] at e; cases e) (fun z => by rw [z, t.dq] at e; cases e)]; exact e
  · by_cases a : l = D
    · subst a; rw [← fD]; exact e
    · by_cases b : l = p
      · subst b; rw [← fp]; exact e
      · by_cases c : l = q
        · subst c; rw [← fq]; exact e
        · rw [fo l a b c] at e; exact t.kh _ _ e
  · rw [fo l (fun z => by rw [z] at n; exact n t.fD) (fun z => by rw [z] at n; exact n t.fp) (fun z => by rw [z] at n; exact n t.fq)]
    exact t.sp l e n
  · refine rp_lst (fD.trans t.hD) (rpl_cons (rp_lst (fp.trans t.hp) (rpl_cons rp_int (rpl_cons rp_int rpl_nil))) (rpl_cons (rp_lst (fq.trans t.hq) (rpl_cons rp_int (rpl_cons rp_int rpl_nil))) rpl_nil))
end
/-! ### its readings -/
abbrev tTb2 : TS := tAsg (tLc (iRng1 (tCons (tVar 1) tNil)) (gName 3) tYes (tOp rRep (tLst (tCons (tC (.int 0)) tNil)) (tVar 1)) [3]) (gName 2)
abbrev tCell (K : PySem.W.Frag) (i j : Nat) : TE := tOp (rIx K) (tOp (rIx K) (tVar 2) (tVar i)) (tVar j)
abbrev tPut (K : PySem.W.Frag) (i j : Nat) : TS := tAsg (tOp (rI0 fun i j => .int (i + j)) (tCell K i j) (tVar 5)) (gSub (tOp (rIx K) (tVar 2) (tVar i)) (tVar j) rSetL)
abbrev gTb (K : PySem.W.Frag) : TG := gTup K 2 (gCons (gTup K 2 (gCons (gName 3) (gCons (gName 4) gNil))) (gCons (gName 5) gNil))
abbrev hTb : Dat → En → Option En := gT (gsC (gT (gsC (gN 3) (gsC (gN 4) gsN))) (gsC (gN 5) gsN))
abbrev tTb3 (K : PySem.W.Frag) (ta : TA) : TS := tFor (iZipM K ta) (gTb K) (tSeq (tPut K 3 4) (tPut K 4 3))
section
variable {C : Addr} {K : PySem.W.Frag}
theorem atI_0 {x y : V} : atI [x, y] 0 = some x := rfl
theorem atI_1 {x y : V} : atI [x, y] 1 = some y := rfl
/-- found[i][j] = found[i][j] + own -/
theorem put_ok {σ : L2.St} {H : Hp} {E : Ends} {si sj : Nat} {i j n x : Int} {k : Nat} {D r : Addr} {rows xs : List V} (h2 : σ[2]? = some (some (.ref D))) (hi : σ[si]? = some (some (.int i))) (hj : σ[sj]? = some (some (.int j))) (h5 : σ[5]? = some (some (.int n)))
    (hD : H D = some (.lst rows)) (hr : atI rows i = some (.ref r)) (hR : H r = some (.lst xs)) (hx : atI xs j = some (.int x)) (hk : ixN xs.length j = some k) (q : E.nx σ (upd H r (.lst (xs.set k (.int (x + n)))))) : tPut K si sj E σ H :=
  ⟨.ref D, h2, .int i, hi, Or.inl ⟨D, rows, i, .ref r, rfl, rfl, SqL.of hD, hr, .int j, hj, Or.inl ⟨r, xs, j, .int x, rfl, rfl, SqL.of hR, hx, .int n, h5, x, n, rfl, rfl,
    ⟨.ref D, h2, .int i, hi, Or.inl ⟨D, rows, i, .ref r, rfl, rfl, SqL.of hD, hr, .int j, hj, r, xs, j, k, rfl, rfl, hR, hk, q⟩⟩⟩⟩⟩
/-- [[0] * size for row in range(size)] -/
theorem tb2_ok {σ : L2.St} {H : Hp} {E : Ends} (hl : σ.length = 6) (h1 : σ[1]? = some (some (.int 2)))
    (q : ∀ H' D a b, Le H H' → D ≠ a → D ≠ b → a ≠ b → H D = none → H a = none → H b = none → H' D = some (.lst [.ref a, .ref b]) → H' a = some (.lst [.int 0, .int 0]) → H' b = some (.lst [.int 0, .int 0]) → E.nx (σ.set 2 (some (.ref D))) H') : tTb2 E σ H := by
  have w1 : ∀ v, ((wipe σ [3]).set 3 (some v))[1]? = some (some (.int 2)) := fun v => by
    rw [List.getElem?_set_ne (by decide), wipe_out (by decide)]; exact h1
  refine ⟨.int 2, h1, 2, rfl, by decide, by decide, fun D hD => ?_⟩
  refine ⟨fun i m H' => m = 2 - i ∧ i ≤ 2 ∧ Le H H' ∧ ∃ ps : List Addr, ps.length = i ∧ ps.Nodup ∧ H' D = some (.lst (ps.map V.ref)) ∧ ∀ a ∈ ps, H' a = some (.lst [.int 0, .int 0]) ∧ H a = none ∧ D ≠ a,
    ⟨2, rfl, Nat.zero_le _, Le.new hD, [], rfl, List.nodup_nil, upd_same, fun a h => nomatch h⟩, ?_⟩
  rintro i m H' ⟨rfl, hi, le, ps, hp, nd, hDs, ha⟩
  by_cases hlt : i < 2
  · refine .inr ⟨show i < (2 : Int).toNat from hlt, fun H2 => Le H H2 ∧ ∃ ps : List Addr, ps.length = i + 1 ∧ ps.Nodup ∧ H2 D = some (.lst (ps.map V.ref)) ∧ ∀ a ∈ ps, H2 a = some (.lst [.int 0, .int 0]) ∧ H a = none ∧ D ≠ a,
      fun H2 h => ⟨2 - (i + 1), by omega, rfl, hlt, h⟩, ?_⟩
    rintro x H2 ⟨rfl, rfl⟩
    refine ⟨wipe_agree (by rw [List.length_set, wipe_length]) fun j hj => ?_, ?_⟩
    · rw [List.getElem?_set_ne (fun z => hj (by simp [z]))]
    · dsimp only [tYes]
      rw [if_pos rfl]
      refine ⟨sz_of (by decide), fun l0 f0 => ⟨.int 2, w1 _, l0, 2, [.int 0], rfl, rfl, upd_same, by decide, by decide, sz_of (by decide), fun p f1 => ?_⟩⟩
      have e0 : l0 ≠ p := fun z => by subst z; rw [upd_same] at f1; cases f1
      have fp : H2 p = none := by rw [upd_ne (Ne.symm e0)] at f1; exact f1
      have eD0 : D ≠ l0 := fun z => by subst z; rw [hDs] at f0; cases f0
      have eDp : D ≠ p := fun z => by subst z; rw [hDs] at fp; cases fp
      have hz : ps.length < 100000 := by omega
      refine ⟨ps.map V.ref, by rw [upd_ne eDp, upd_ne eD0]; exact hDs, sz_lt (by rw [List.length_map]; exact hz), fun a u e => ?_, ps ++ [p], by rw [List.length_append, hp]; rfl, ?_, ?_, fun a h => ?_⟩
      · have n1 : a ≠ D := fun z => by subst z; rw [hD] at e; cases e
        have e' := le a u e
        have n2 : a ≠ p := fun z => by subst z; rw [fp] at e'; cases e'
        have n3 : a ≠ l0 := fun z => by subst z; rw [f0] at e'; cases e'
        rw [upd_ne n1, upd_ne n2, upd_ne n3]; exact e'
      · refine List.nodup_append.mpr ⟨nd, by simp, fun a h b hb z => ?_⟩
        have eb : b = p := by simpa using hb
        have := (ha a h).1
        rw [z, eb, fp] at this
        cases this
      · rw [upd_same, List.map_append]; rfl
      · rcases List.mem_append.mp h with h | h
        · obtain ⟨k1, k2, k3⟩ := ha a h
          have n2 : a ≠ p := fun z => by subst z; rw [fp] at k1; cases k1
          have n3 : a ≠ l0 := fun z => by subst z; rw [f0] at k1; cases k1
          rw [upd_ne (Ne.symm k3), upd_ne n2, upd_ne n3]
          exact ⟨k1, k2, k3⟩
        · have ea : a = p := by simpa using h
          subst ea
          rw [upd_ne (Ne.symm eDp), upd_same]
          exact ⟨rfl, le.free fp, eDp⟩
  · have e : i = 2 := by omega
    subst e
    refine .inl ⟨show (2 : Int).toNat ≤ 2 from Nat.le_refl _, ?_⟩
    match ps, hp with
    | [a, b], _ =>
      obtain ⟨a1, a2, a3⟩ := ha a (by simp)
      obtain ⟨b1, b2, b3⟩ := ha b (by simp)
      exact q H' D a b le a3 b3 (fun z => by simp [z] at nd) hD a2 b2 hDs a1 b1
def datPairs : List Dat := [.tup [.int 0, .int 0], .tup [.int 0, .int 1], .tup [.int 1, .int 1]]
def s_tb : En → Option Fl
  | [.fz (.tup [.int a, .int b, .int c]), .fz (.int 2), .no, .no, .no, .no] => some (.nx [.fz (.tup [.int a, .int b, .int c]), .fz (.int 2), .fz (.lst [.lst [.int (2 * a), .int b], .lst [.int b, .int (2 * c)]]), .no, .no, .no])
  | _ => none
theorem ok_tb {ta : TA} (hta : ∀ (Hk H : Hp) (σ : L2.St) (ρ : En) (a b c : Int), Rel C Hk H σ ρ → ρ[0]? = some (.fz (.tup [.int a, .int b, .int c])) → ρ[1]? = some (.fz (.int 2)) → ∀ Q : List V → Hp → Prop,
      (∀ vs Hk' H', Nx Hk H Hk' H' → RpL C Hk' [.lst datPairs, .tup [.int a, .int b, .int c]] vs → Q vs H') → ta σ H Q)
    (og : OkG C [3, 4, 5] (gTb K) hTb) : OkS C (tSeq tTb2 (tTb3 K ta)) s_tb := fun Hk H σ ρ r rl e E hn hr => by
  unfold s_tb at e
  split at e
  · rename_i a b c
    cases e
    have hl : σ.length = 6 := rl.len
    obtain ⟨v1, e1, rv1⟩ := rl.fz 1 _ rfl
    rw [rv1.int] at e1
    refine tb2_ok hl e1 fun H' D p q le nDp nDq npq fD fp fq hD hp hq => ?_
    have T0 : TbI C Hk H Hk H' D p q 0 0 0 0 := ⟨Le.refl _, rl.kh.trans le, le, fun l e _ => e, rl.kh.free fD, rl.kh.free fp, rl.kh.free fq, nDp, nDq, npq, fD, fp, fq, hD, hp, hq⟩
    obtain ⟨v0, e0, rv0⟩ := rl.fz 0 _ rfl
    -- the slots: 0, 1 known, 2 the list
    let ρ0 : En := [.fz (.tup [.int a, .int b, .int c]), .fz (.int 2), .no, .no, .no, .no]
    have R : ∀ {Hk1 H1 : Hp} {σ1 : L2.St}, Le Hk Hk1 → Le Hk1 H1 → σ1.length = 6 → σ1[0]? = σ[0]? → σ1[1]? = σ[1]? → Rel C Hk1 H1 σ1 ρ0 := fun {Hk1 H1 σ1} k1 k2 k3 k4 k5 =>
      { kh := k2, len := k3,
        fz := fun i d hi => by
          match i, hi with
          | 0, hi => cases hi; exact ⟨v0, k4.trans e0, rv0.mono k1⟩
          | 1, hi => cases hi; exact ⟨.int 2, k5.trans e1, rp_int⟩
          | 2, hi => cases hi
          | 3, hi => cases hi
          | 4, hi => cases hi
          | 5, hi => cases hi
          | i + 6, hi => simp [ρ0] at hi,
        ow := fun i ds hi => by
          match i, hi with
          | 0, hi => cases hi
          | 1, hi => cases hi
          | 2, hi => cases hi
          | 3, hi => cases hi
          | 4, hi => cases hi
          | 5, hi => cases hi
          | i + 6, hi => simp [ρ0] at hi,
        ds := fun i j l x y hi => by
          match i, hi with
          | 0, hi => cases hi
          | 1, hi => cases hi
          | 2, hi => cases hi
          | 3, hi => cases hi
          | 4, hi => cases hi
          | 5, hi => cases hi
          | i + 6, hi => simp [ρ0] at hi }
    show tTb3 K ta _ (σ.set 2 (some (.ref D))) H'
    have s0 : (σ.set 2 (some (.ref D)))[0]? = σ[0]? := List.getElem?_set_ne (by decide)
    have s1 : (σ.set 2 (some (.ref D)))[1]? = σ[1]? := List.getElem?_set_ne (by decide)
    have s2 : (σ.set 2 (some (.ref D)))[2]? = some (some (.ref D)) := List.getElem?_set_self (by omega)
    refine hta Hk H' _ ρ0 a b c (R (Le.refl _) T0.kh (by simp [hl]) s0 s1) rfl rfl _ fun vs Hk1 H1 n1 r1 => ?_
    obtain ⟨u, t, rfl, k1, k2⟩ := r1.cons
    obtain ⟨u', t', rfl, k3, k4⟩ := k2.cons
    obtain ⟨l, us, rfl, h1, h2⟩ := k1.lst
    obtain ⟨m, ws, rfl, h3, h4⟩ := k3.tup
    rw [k4.nil]
    refine ⟨l, m, us, ws, rfl, SqL.of (n1.kh _ _ h1), SqT.of (n1.kh _ _ h3), ?_⟩
    have W : Wk C (ItzM K l m) Hk1 Hk1 (zipD datPairs [.int a, .int b, .int c]) := wk_zipM h1 h3 (Le.refl _) h2 h4
    have T1 := T0.nx n1
    -- the rows at each turn
    let x1 : Nat → Int := fun i => if i = 0 then 0 else 2 * a
    let x2 : Nat → Int := fun i => if i ≤ 1 then 0 else b
    let y2 : Nat → Int := fun i => if i ≤ 2 then 0 else 2 * c
    let Pv : Nat → L2.St → Hp → Prop := fun i σ' H' => ∃ Hk', Le Hk1 Hk' ∧ TbI C Hk H Hk' H' D p q (x1 i) (x2 i) (x2 i) (y2 i) ∧ σ'.length = 6 ∧ σ'[0]? = σ[0]? ∧ σ'[1]? = σ[1]? ∧ σ'[2]? = some (some (.ref D))
    refine ⟨fun i m σ' H' => m = 3 - i ∧ i ≤ 3 ∧ Pv i σ' H', ⟨3, rfl, Nat.zero_le _, Hk1, Le.refl _, T1, by simp [hl], s0, s1, s2⟩, ?_⟩
    rintro i m' σ' H2 ⟨rfl, hi, Hk', kk', T, l6, g0, g1, g2⟩
    by_cases hlt : i < 3
    · refine .inr ⟨W.go i _ hlt (kk'.trans T.kh), Pv (i + 1), fun σ2 H2 p' => ⟨3 - (i + 1), by omega, rfl, hlt, p'⟩, fun x H3 y => ?_⟩
      obtain ⟨d, Hk2, e2, n2, rd⟩ := W.yld i _ x H3 hlt (kk'.trans T.kh) y Hk' kk' T.kh
      have T2 := T.nx n2
      have rl2 : Rel C Hk2 H3 σ' ρ0 := R T2.kk T2.kh l6 g0 g1
      match i, hlt, e2 with
      | 0, _, e2 =>
        cases e2
        refine og Hk2 H3 σ' ρ0 _ _ x rl2 rd rfl _ fun σ3 rl3 l3 k3 _ => ?_
        obtain ⟨w3, f3, z3⟩ := rl3.fz 3 _ rfl
        obtain ⟨w4, f4, z4⟩ := rl3.fz 4 _ rfl
        obtain ⟨w5, f5, z5⟩ := rl3.fz 5 _ rfl
        rw [z3.int] at f3; rw [z4.int] at f4; rw [z5.int] at f5
        have f2 : σ3[2]? = some (some (.ref D)) := (k3 2 (by decide)).trans g2
        refine put_ok (r := p) (x := 0) (k := 0) f2 f3 f4 f5 T2.hD rfl T2.hp rfl rfl ?_
        have T3 := T2.setP (0 + a) 0
        refine put_ok (r := p) (x := 0 + a) (k := 0) f2 f4 f3 f5 T3.hD rfl T3.hp rfl rfl ?_
        have T4 := T3.setP (0 + a + a) 0
        refine ⟨Hk2, kk'.trans n2.kk, ?_, l3.trans l6, (k3 0 (by decide)).trans g0, (k3 1 (by decide)).trans g1, f2⟩
        have ex : x1 (0 + 1) = 0 + a + a := by show (if (0 : Nat) + 1 = 0 then (0 : Int) else 2 * a) = _; rw [if_neg (by decide)]; omega
        show TbI C Hk H Hk2 _ D p q (x1 (0 + 1)) 0 0 0
        rw [ex]
        exact T4
      | 1, _, e2 =>
        cases e2
        refine og Hk2 H3 σ' ρ0 _ _ x rl2 rd rfl _ fun σ3 rl3 l3 k3 _ => ?_
        obtain ⟨w3, f3, z3⟩ := rl3.fz 3 _ rfl
        obtain ⟨w4, f4, z4⟩ := rl3.fz 4 _ rfl
        obtain ⟨w5, f5, z5⟩ := rl3.fz 5 _ rfl
        rw [z3.int] at f3; rw [z4.int] at f4; rw [z5.int] at f5
        have f2 : σ3[2]? = some (some (.ref D)) := (k3 2 (by decide)).trans g2
        refine put_ok (r := p) (x := 0) (k := 1) f2 f3 f4 f5 T2.hD rfl T2.hp rfl rfl ?_
        have T3 := T2.setP (2 * a) (0 + b)
        refine put_ok (r := q) (x := 0) (k := 0) f2 f4 f3 f5 T3.hD rfl T3.hq rfl rfl ?_
        have T4 := T3.setQ (0 + b) 0
        refine ⟨Hk2, kk'.trans n2.kk, ?_, l3.trans l6, (k3 0 (by decide)).trans g0, (k3 1 (by decide)).trans g1, f2⟩
        have ex : x2 (1 + 1) = 0 + b := by show (if (1 : Nat) + 1 ≤ 1 then (0 : Int) else b) = _; rw [if_neg (by decide)]; omega
        show TbI C Hk H Hk2 _ D p q (2 * a) (x2 (1 + 1)) (x2 (1 + 1)) 0
        rw [ex]
        exact T4
      | 2, _, e2 =>
        cases e2
        refine og Hk2 H3 σ' ρ0 _ _ x rl2 rd rfl _ fun σ3 rl3 l3 k3 _ => ?_
        obtain ⟨w3, f3, z3⟩ := rl3.fz 3 _ rfl
        obtain ⟨w4, f4, z4⟩ := rl3.fz 4 _ rfl
        obtain ⟨w5, f5, z5⟩ := rl3.fz 5 _ rfl
        rw [z3.int] at f3; rw [z4.int] at f4; rw [z5.int] at f5
        have f2 : σ3[2]? = some (some (.ref D)) := (k3 2 (by decide)).trans g2
        refine put_ok (r := q) (x := 0) (k := 1) f2 f3 f4 f5 T2.hD rfl T2.hq rfl rfl ?_
        have T3 := T2.setQ b (0 + c)
        refine put_ok (r := q) (x := 0 + c) (k := 1) f2 f4 f3 f5 T3.hD rfl T3.hq rfl rfl ?_
        have T4 := T3.setQ b (0 + c + c)
        refine ⟨Hk2, kk'.trans n2.kk, ?_, l3.trans l6, (k3 0 (by decide)).trans g0, (k3 1 (by decide)).trans g1, f2⟩
        have ex : y2 (2 + 1) = 0 + c + c := by show (if (2 : Nat) + 1 ≤ 2 then (0 : Int) else 2 * c) = _; rw [if_neg (by decide)]; omega
        show TbI C Hk H Hk2 _ D p q (2 * a) b b (y2 (2 + 1))
        rw [ex]
        exact T4
    · have ei : i = 3 := by omega
      subst ei
      refine .inl ⟨W.stop _ (kk'.trans T.kh), ?_⟩
      have T' : TbI C Hk H Hk' H2 D p q (2 * a) b b (2 * c) := T
      obtain ⟨Hf, j1, j2, j3, j4⟩ := T'.frz
      have nown : ∀ l, ¬ Own σ' [Sl.fz (.tup [.int a, .int b, .int c]), .fz (.int 2), .fz (.lst [.lst [.int (2 * a), .int b], .lst [.int b, .int (2 * c)]]), .no, .no, .no] l := by
        rintro l ⟨i, ds, hi, _⟩
        match i, hi with
        | 0, hi => cases hi
        | 1, hi => cases hi
        | 2, hi => cases hi
        | 3, hi => cases hi
        | 4, hi => cases hi
        | 5, hi => cases hi
        | i + 6, hi => simp at hi
      refine hn _ rfl σ' Hf H2 ⟨T'.kk.trans j1, j2, fun l o e _ => T'.fr l o e, fun l e n _ => j3 l e n, fun l o => (nown l o).elim⟩ ?_
      refine ⟨j2, l6, fun i d hi => ?_, fun i ds hi => ?_, fun i j l x y hi => ?_⟩
      · match i, hi with
        | 0, hi => cases hi; exact ⟨v0, g0.trans e0, rv0.mono (T'.kk.trans j1)⟩
        | 1, hi => cases hi; exact ⟨.int 2, g1.trans e1, rp_int⟩
        | 2, hi => cases hi; exact ⟨.ref D, g2, j4⟩
        | 3, hi => cases hi
        | 4, hi => cases hi
        | 5, hi => cases hi
        | i + 6, hi => simp at hi
      · match i, hi with
        | 0, hi => cases hi
        | 1, hi => cases hi
        | 2, hi => cases hi
        | 3, hi => cases hi
        | 4, hi => cases hi
        | 5, hi => cases hi
        | i + 6, hi => simp at hi
      · match i, hi with
        | 0, hi => cases hi
        | 1, hi => cases hi
        | 2, hi => cases hi
        | 3, hi => cases hi
        | 4, hi => cases hi
        | 5, hi => cases hi
        | i + 6, hi => simp at hi
  · cases e
end
/-- one statement, two that go together, the rest -/
theorem sss_two {X : Cx} {C : Addr} {st1 st2 st3 : Stmt} {rest : List Stmt} {t1 t2 t3 t4 : TS} {s1 s23 s4 : En → Option Fl} (h1 : SS X C st1 t1 s1) (p2 : PS X st2 t2) (p3 : PS X st3 t3) (o : OkS C (tSeq t2 t3) s23) (h4 : SSs X C rest t4 s4) :
    SSs X C (st1 :: st2 :: st3 :: rest) (tSeq t1 (tSeq t2 (tSeq t3 t4))) (sSeq s1 (sSeq s23 s4)) :=
  ⟨pss_cons h1.p (pss_cons p2 (pss_cons p3 h4.p)), ok_seq h1.o (show OkS C (tSeq (tSeq t2 t3) t4) _ from ok_seq o h4.o)⟩
end L3
set_option maxHeartbeats 4000000
namespace L3
open PySem L2 RZ
section
variable {P : Program} {w : World} {K : PySem.W.Frag} {mg : Str → Option Value} {base : Heap}
def s_common_divisor : En → Option Fl := sSeq (sPar [0, 1] (bF (fC dAbs (fCons (fV 0) fNil)) (bF (fC dAbs (fCons (fV 1) fNil)) (bNil))))
  (sSeq (sWhile (fB (f2 dNe (fV 1) (fK (.int 0)))) (sPar [0, 1] (bF (fV 1) (bF (f2 dMod (fV 0) (fV 1)) (bNil)))))
  (sRet (fV 0)))
def F_common_divisor : List Dat → Option Dat := runF s_common_divisor 0
theorem sc_common_divisor : FnScope ["one", "other"] ["one", "other"] (defScope (top 27)) := ⟨rfl, rfl, rfl, by decide +kernel, rfl, by decide +kernel, by decide +kernel⟩
theorem d_common_divisor (W : Wf K mg) : DefOk P w K mg base (CF K) 1 "common_divisor" 2 F_common_divisor := by
  obtain ⟨fd, F⟩ := W.d 2 rfl
  have nd := sc_common_divisor.nd
  exact defok F (fn_spf (k := 0) F sc_common_divisor (by decide) fun cdv A outer sh H hr => ⟨_, (ss_cons (ss_par2 0 1 rfl nd (sb_f (se_abs W.b_abs (se_var 0)) (sb_f (se_abs W.b_abs (se_var 1)) sb_nil)))
  (ss_cons (ss_while PassesOwn.never (st_ne (se_var 1) se_int) (ss_one (ss_par2 0 1 rfl nd (sb_f (se_var 1) (sb_f (se_mod (se_var 0) (se_var 1)) sb_nil)))))
  (ss_one (ss_ret (se_var 0)))))⟩) (W.g 2 rfl) (F.bindsN fun _ _ _ _ _ _ us hl => match us, hl with | [_, _], _ => rfl)
def s_common_of : En → Option Fl := sSeq (sSet 1 (fK (.int 0)))
  (sSeq (sFor (fSq (fV 0)) (gN 2) (sSet 1 (fC F_common_divisor (fCons (fV 1) (fCons (fV 2) (fNil))))))
  (sRet (fV 1)))
def F_common_of : List Dat → Option Dat := runF s_common_of 2
theorem sc_common_of : FnScope ["values", "found", "value"] ["values"] (defScope (top 28)) := ⟨rfl, rfl, rfl, by decide +kernel, rfl, by decide +kernel, by decide +kernel⟩
theorem d_common_of (W : Wf K mg) : DefOk P w K mg base (CF K) 2 "common_of" 1 F_common_of := by
  obtain ⟨fd, F⟩ := W.d 3 rfl
  have nd := sc_common_of.nd
  exact defok F (fn_spf (k := 1) F sc_common_of (by decide) fun cdv A outer sh H hr => ⟨_, (ss_cons (ss_set 1 nd se_int)
  (ss_cons (ss_for PassesOwn.never rfl (si_seqK (K := K) (se_var 0)) (sg_name 2 nd) (ss_one (ss_set 1 nd (se_call (d_common_divisor W) (hr.mono (by decide)) (sa_cons (se_var 1) (sa_cons (se_var 2) sa_nil))))))
  (ss_one (ss_ret (se_var 1)))))⟩) (W.g 3 rfl) (F.bindsN fun _ _ _ _ _ _ us hl => match us, hl with | [_], _ => rfl)
def s_root_of : En → Option Fl := sSeq (sPar [1, 2] (bF (fK (.int 0)) (bF (fK (.int 1)) (bNil))))
  (sSeq (sWhile (fB (f2 dLe (f2 dMul (fV 2) (fV 2)) (fV 0))) (sSet 2 (f2 dMul (fK (.int 2)) (fV 2))))
  (sSeq (sWhile (fB (f2 dGt (f2 dSub (fV 2) (fV 1)) (fK (.int 1)))) (sSeq (sSet 3 (f2 dDiv (f2 dAdd (fV 1) (fV 2)) (fK (.int 2))))
  (sIf (fB (f2 dLe (f2 dMul (fV 3) (fV 3)) (fV 0))) (sSet 1 (fV 3)) (sSet 2 (fV 3)))))
  (sRet (fV 1))))
def F_root_of : List Dat → Option Dat := runF s_root_of 3
theorem sc_root_of : FnScope ["value", "low", "high", "middle"] ["value"] (defScope (top 29)) := ⟨rfl, rfl, rfl, by decide +kernel, rfl, by decide +kernel, by decide +kernel⟩
theorem d_root_of (W : Wf K mg) : DefOk P w K mg base (CF K) 1 "root_of" 1 F_root_of := by
  obtain ⟨fd, F⟩ := W.d 4 rfl
  have nd := sc_root_of.nd
  exact defok F (fn_spf (k := 0) F sc_root_of (by decide) fun cdv A outer sh H hr => ⟨_, (ss_cons (ss_parT rfl (snm_cons 1 nd (snm_cons 2 nd snm_nil)) (sb_f se_int (sb_f se_int sb_nil)))
  (ss_cons (ss_while PassesOwn.never (st_le (se_mul (se_var 2) (se_var 2)) (se_var 0)) (ss_one (ss_set 2 nd (se_mul se_int (se_var 2)))))
  (ss_cons (ss_while PassesOwn.never (st_gt (se_sub (se_var 2) (se_var 1)) se_int) (ss_cons (ss_set 3 nd (se_div (se_add (se_var 1) (se_var 2)) se_int))
  (ss_one (ss_if (st_le (se_mul (se_var 3) (se_var 3)) (se_var 0)) (ss_one (ss_set 1 nd (se_var 3))) (ss_one (ss_set 2 nd (se_var 3)))))))
  (ss_one (ss_ret (se_var 1))))))⟩) (W.g 4 rfl) (F.bindsN fun _ _ _ _ _ _ us hl => match us, hl with | [_], _ => rfl)
def s_is_square : En → Option Fl := sRet (fAndV (f2 dGe (fV 0) (fK (.int 0))) (f2 dEq (f2 dMul (fC F_root_of (fCons (fV 0) (fNil))) (fC F_root_of (fCons (fV 0) (fNil)))) (fV 0)))
def F_is_square : List Dat → Option Dat := runF s_is_square 0
theorem sc_is_square : FnScope ["value"] ["value"] (defScope (top 30)) := ⟨rfl, rfl, rfl, by decide +kernel, rfl, by decide +kernel, by decide +kernel⟩
theorem d_is_square (W : Wf K mg) : DefOk P w K mg base (CF K) 2 "is_square" 1 F_is_square := by
  obtain ⟨fd, F⟩ := W.d 5 rfl
  have nd := sc_is_square.nd
  exact defok F (fn_spf (k := 1) F sc_is_square (by decide) fun cdv A outer sh H hr => ⟨_, (ss_one (ss_ret (se_and (se_ge (se_var 0) se_int) (se_one (se_eq (se_mul (se_call (d_root_of W) (hr.mono (by decide)) (sa_cons (se_var 0) sa_nil)) (se_call (d_root_of W) (hr.mono (by decide)) (sa_cons (se_var 0) sa_nil))) (se_var 0))))))⟩) (W.g 5 rfl) (F.bindsN fun _ _ _ _ _ _ us hl => match us, hl with | [_], _ => rfl)
def s_divisors_of : En → Option Fl := sSeq (sPar [1, 2, 3] (bL (fNil) (bL (fNil) (bF (fK (.int 1)) (bNil)))))
  (sSeq (sWhile (fB (f2 dLe (f2 dMul (fV 3) (fV 3)) (fV 0))) (sSeq (sIf (fB (f2 dEq (f2 dMod (fV 0) (fV 3)) (fK (.int 0)))) (sSeq (sApp 1 (fV 3))
  (sIf (fB (f2 dNe (f2 dMul (fV 3) (fV 3)) (fV 0))) (sApp 2 (f2 dDiv (fV 0) (fV 3))) (sNext))) (sNext))
  (sAug (fun i j => i + j) 3 (fK (.int 1)))))
  (sRet (fLst (fCat (fO 1) (fun ρ => ((fO 2) ρ).bind fun ds => some ds.reverse)))))
def F_divisors_of : List Dat → Option Dat := runF s_divisors_of 3
theorem sc_divisors_of : FnScope ["value", "low", "high", "step"] ["value"] (defScope (top 31)) := ⟨rfl, rfl, rfl, by decide +kernel, rfl, by decide +kernel, by decide +kernel⟩
theorem d_divisors_of (W : Wf K mg) : DefOk P w K mg base (CF K) 1 "divisors_of" 1 F_divisors_of := by
  obtain ⟨fd, F⟩ := W.d 6 rfl
  have nd := sc_divisors_of.nd
  exact defok F (fn_spf (k := 0) F sc_divisors_of (by decide) fun cdv A outer sh H hr => ⟨_, (ss_cons (ss_par3 1 2 3 rfl nd (sb_l (sl_lst sa_nil) (sb_l (sl_lst sa_nil) (sb_f se_int sb_nil))))
  (ss_cons (ss_while PassesOwn.never (st_le (se_mul (se_var 3) (se_var 3)) (se_var 0)) (ss_cons (ss_if (st_eq (se_mod (se_var 0) (se_var 3)) se_int) (ss_cons (ss_app 1 (se_var 3))
  (ss_one (ss_if (st_ne (se_mul (se_var 3) (se_var 3)) (se_var 0)) (ss_one (ss_app 2 (se_div (se_var 0) (se_var 3)))) ss_nil))) ss_nil)
  (ss_one (ss_aug 3 nd ip_add se_int))))
  (ss_one (ss_ret (SL.se (sl_cat (sw_ow 1) (SL.sw (sl_revK (K := K) (sw_ow 2)))))))))⟩) (W.g 6 rfl) (F.bindsN fun _ _ _ _ _ _ us hl => match us, hl with | [_], _ => rfl)
def s_is_integer : En → Option Fl := sRet (fAndV (f1 (dIsi .int) (fV 0)) (fNotV (f1 (dIsi .bool) (fV 0))))
def F_is_integer : List Dat → Option Dat := runF s_is_integer 0
theorem sc_is_integer : FnScope ["value"] ["value"] (defScope (top 17)) := ⟨rfl, rfl, rfl, by decide +kernel, rfl, by decide +kernel, by decide +kernel⟩
theorem d_is_integer (W : Wf K mg) : DefOk P w K mg base (CF K) 1 "is_integer" 1 F_is_integer := by
  obtain ⟨fd, F⟩ := W.d 0 rfl
  have nd := sc_is_integer.nd
  exact defok F (fn_spf (k := 0) F sc_is_integer (by decide) fun cdv A outer sh H hr => ⟨_, (ss_one (ss_ret (se_and (se_isiK (K := K) W.b_isinstance W.b_int (se_var 0) .int) (se_one (se_not (se_isiK (K := K) W.b_isinstance W.b_bool (se_var 0) .bool))))))⟩) (W.g 0 rfl) (F.bindsN fun _ _ _ _ _ _ us hl => match us, hl with | [_], _ => rfl)
def s_is_between : En → Option Fl := sRet (fAndV (fC F_is_integer (fCons (fV 0) (fNil))) (fChain dLe dLe (fV 1) (fV 0) (fV 2)))
def F_is_between : List Dat → Option Dat := runF s_is_between 0
theorem sc_is_between : FnScope ["value", "low", "high"] ["value", "low", "high"] (defScope (top 18)) := ⟨rfl, rfl, rfl, by decide +kernel, rfl, by decide +kernel, by decide +kernel⟩
theorem d_is_between (W : Wf K mg) : DefOk P w K mg base (CF K) 2 "is_between" 3 F_is_between := by
  obtain ⟨fd, F⟩ := W.d 1 rfl
  have nd := sc_is_between.nd
  exact defok F (fn_spf (k := 1) F sc_is_between (by decide) fun cdv A outer sh H hr => ⟨_, (ss_one (ss_ret (se_and (se_call (d_is_integer W) (hr.mono (by decide)) (sa_cons (se_var 0) sa_nil)) (se_one (se_le_le (se_var 1) (se_var 0) (se_var 2))))))⟩) (W.g 1 rfl) (F.bindsN fun _ _ _ _ _ _ us hl => match us, hl with | [_, _, _], _ => rfl)
def s_unit_table : En → Option Fl := sRet (fC dTup (fLc (fRng1 (fCons (fV 0) (fNil))) (gN 2) (fYes) (fC dTup (fLc (fRng1 (fCons (fV 0) (fNil))) (gN 1) (fYes) (fC dInt (fCons (f2 dEq (fV 1) (fV 2)) fNil)) [1])) [2]))
def F_unit_table : List Dat → Option Dat := runF s_unit_table 2
theorem sc_unit_table : FnScope ["size", "column", "row"] ["size"] (defScope (top 33)) := ⟨rfl, rfl, rfl, by decide +kernel, rfl, by decide +kernel, by decide +kernel⟩
theorem d_unit_table (W : Wf K mg) : DefOk P w K mg base (CF K) 1 "unit_table" 1 F_unit_table := by
  obtain ⟨fd, F⟩ := W.d 7 rfl
  have nd := sc_unit_table.nd
  exact defok F (fn_spf (k := 0) F sc_unit_table (by decide) fun cdv A outer sh H hr => ⟨_, (ss_one (ss_ret (se_tupofK (K := K) W.b_tuple (SW.sq (SL.sw (sl_lc (own := [("row", 2)]) rfl nd (blkOk_by (own := [("row", 2)]) (by kernel_rfl)) (by decide) (SI.w (si_rng1 W.b_range (sa_cons (se_var 0) sa_nil))) (fun _ _ _ _ _ => (sg_name 2 nd)) (fun _ _ _ _ _ => sts_nil) (fun _ _ _ _ _ => (se_tupofK (K := K) W.b_tuple (SW.sq (SL.sw (sl_lc (own := [("column", 1)]) rfl nd (blkOk_by (own := [("column", 1)]) (by kernel_rfl)) (by decide) (SI.w (si_rng1 W.b_range (sa_cons (se_var 0) sa_nil))) (fun _ _ _ _ _ => (sg_name 1 nd)) (fun _ _ _ _ _ => sts_nil) (fun _ _ _ _ _ => (se_intof W.b_int (se_eq (se_var 1) (se_var 2)))))))))))))))⟩) (W.g 7 rfl) (F.bindsN fun _ _ _ _ _ _ us hl => match us, hl with | [_], _ => rfl)
def s_applied : En → Option Fl := sRet (fC dTup (fLc (fSq (fV 0)) (gN 4) (fYes) (fC dSum (fLc (fun ρ => ((fCons (fV 4) (fCons (fV 1) (fNil))) ρ).bind dZip) (gT (gsC (gN 2) (gsC (gN 3) (gsN)))) (fYes) (f2 dMul (fV 2) (fV 3)) [2, 3])) [4]))
def F_applied : List Dat → Option Dat := runF s_applied 3
theorem sc_applied : FnScope ["rows", "vector", "own", "value", "row"] ["rows", "vector"] (defScope (top 34)) := ⟨rfl, rfl, rfl, by decide +kernel, rfl, by decide +kernel, by decide +kernel⟩
theorem d_applied (W : Wf K mg) : DefOk P w K mg base (CF K) 1 "applied" 2 F_applied := by
  obtain ⟨fd, F⟩ := W.d 8 rfl
  have nd := sc_applied.nd
  exact defok F (fn_spf (k := 0) F sc_applied (by decide) fun cdv A outer sh H hr => ⟨_, (ss_one (ss_ret (se_tupofK (K := K) W.b_tuple (SW.sq (SL.sw (sl_lc (own := [("row", 4)]) rfl nd (blkOk_by (own := [("row", 4)]) (by kernel_rfl)) (by decide) (SI.w (si_seqK (K := K) (se_var 0))) (fun _ _ _ _ _ => (sg_name 4 nd)) (fun _ _ _ _ _ => sts_nil) (fun _ _ _ _ _ => (se_sumK (K := K) rfl W.b_sum (SL.sw (sl_lc (own := [("own", 2), ("value", 3)]) rfl nd (blkOk_by (own := [("own", 2), ("value", 3)]) (by kernel_rfl)) (by decide) (SI.w (si_zipK (K := K) W.b_zip (sa_cons (se_var 4) (sa_cons (se_var 1) sa_nil)))) (fun _ _ _ _ _ => (sg_tupK (K := K) rfl (sgs_cons (sg_name 2 nd) (sgs_cons (sg_name 3 nd) sgs_nil)))) (fun _ _ _ _ _ => sts_nil) (fun _ _ _ _ _ => (se_mul (se_var 2) (se_var 3)))))))))))))⟩) (W.g 8 rfl) (F.bindsN fun _ _ _ _ _ _ us hl => match us, hl with | [_, _], _ => rfl)
def s_turned : En → Option Fl := sRet (fC dTup (fLc (fRng1 (fCons (fC dLen (fSq (fV 0))) (fNil))) (gN 2) (fYes) (fC dTup (fLc (fSq (fV 0)) (gN 1) (fYes) (fIxL (fSq (fV 1)) (fV 2)) [1])) [2]))
def F_turned : List Dat → Option Dat := runF s_turned 2
theorem sc_turned : FnScope ["rows", "row", "column"] ["rows"] (defScope (top 35)) := ⟨rfl, rfl, rfl, by decide +kernel, rfl, by decide +kernel, by decide +kernel⟩
theorem d_turned (W : Wf K mg) : DefOk P w K mg base (CF K) 1 "turned" 1 F_turned := by
  obtain ⟨fd, F⟩ := W.d 9 rfl
  have nd := sc_turned.nd
  exact defok F (fn_spf (k := 0) F sc_turned (by decide) fun cdv A outer sh H hr => ⟨_, (ss_one (ss_ret (se_tupofK (K := K) W.b_tuple (SW.sq (SL.sw (sl_lc (own := [("column", 2)]) rfl nd (blkOk_by (own := [("column", 2)]) (by kernel_rfl)) (by decide) (SI.w (si_rng1 W.b_range (sa_cons (se_lenK (K := K) W.b_len (SE.sq (se_var 0))) sa_nil))) (fun _ _ _ _ _ => (sg_name 2 nd)) (fun _ _ _ _ _ => sts_nil) (fun _ _ _ _ _ => (se_tupofK (K := K) W.b_tuple (SW.sq (SL.sw (sl_lc (own := [("row", 1)]) rfl nd (blkOk_by (own := [("row", 1)]) (by kernel_rfl)) (by decide) (SI.w (si_seqK (K := K) (se_var 0))) (fun _ _ _ _ _ => (sg_name 1 nd)) (fun _ _ _ _ _ => sts_nil) (fun _ _ _ _ _ => (se_ixK (K := K) (SE.sq (se_var 1)) (se_var 2))))))))))))))⟩) (W.g 9 rfl) (F.bindsN fun _ _ _ _ _ _ us hl => match us, hl with | [_], _ => rfl)
def s_joined_tables : En → Option Fl := sSeq (sPar [2, 3] (bF (fC F_turned (fCons (fV 1) (fNil))) (bL (fNil) (bNil))))
  (sSeq (sFor (fSq (fV 0)) (gN 4) (sApp 3 (fC dTup (fLc (fSq (fV 2)) (gN 7) (fYes) (fC dSum (fLc (fun ρ => ((fCons (fV 4) (fCons (fV 7) (fNil))) ρ).bind dZip) (gT (gsC (gN 5) (gsC (gN 6) (gsN)))) (fYes) (f2 dMul (fV 5) (fV 6)) [5, 6])) [7]))))
  (sRet (fC dTup (fO 3))))
def F_joined_tables : List Dat → Option Dat := runF s_joined_tables 6
theorem sc_joined_tables : FnScope ["one", "other", "columns", "found", "row", "left", "right", "column"] ["one", "other"] (defScope (top 36)) := ⟨rfl, rfl, rfl, by decide +kernel, rfl, by decide +kernel, by decide +kernel⟩
theorem d_joined_tables (W : Wf K mg) : DefOk P w K mg base (CF K) 2 "joined_tables" 2 F_joined_tables := by
  obtain ⟨fd, F⟩ := W.d 10 rfl
  have nd := sc_joined_tables.nd
  exact defok F (fn_spf (k := 1) F sc_joined_tables (by decide) fun cdv A outer sh H hr => ⟨_, (ss_cons (ss_par2 2 3 rfl nd (sb_f (se_call (d_turned W) (hr.mono (by decide)) (sa_cons (se_var 1) sa_nil)) (sb_l (sl_lst sa_nil) sb_nil)))
  (ss_cons (ss_for PassesOwn.never rfl (si_seqK (K := K) (se_var 0)) (sg_name 4 nd) (ss_one (ss_app 3 (se_tupofK (K := K) W.b_tuple (SW.sq (SL.sw (sl_lc (own := [("column", 7)]) rfl nd (blkOk_by (own := [("column", 7)]) (by kernel_rfl)) (by decide) (SI.w (si_seqK (K := K) (se_var 2))) (fun _ _ _ _ _ => (sg_name 7 nd)) (fun _ _ _ _ _ => sts_nil) (fun _ _ _ _ _ => (se_sumK (K := K) rfl W.b_sum (SL.sw (sl_lc (own := [("left", 5), ("right", 6)]) rfl nd (blkOk_by (own := [("left", 5), ("right", 6)]) (by kernel_rfl)) (by decide) (SI.w (si_zipK (K := K) W.b_zip (sa_cons (se_var 4) (sa_cons (se_var 7) sa_nil)))) (fun _ _ _ _ _ => (sg_tupK (K := K) rfl (sgs_cons (sg_name 5 nd) (sgs_cons (sg_name 6 nd) sgs_nil)))) (fun _ _ _ _ _ => sts_nil) (fun _ _ _ _ _ => (se_mul (se_var 5) (se_var 6))))))))))))))
  (ss_one (ss_ret (se_tupofK (K := K) W.b_tuple (SW.sq (sw_ow 3)))))))⟩) (W.g 10 rfl) (F.bindsN fun _ _ _ _ _ _ us hl => match us, hl with | [_, _], _ => rfl)
def s_around : En → Option Fl := sRet (fC F_joined_tables (fCons (fC F_joined_tables (fCons (fC F_turned (fCons (fV 1) (fNil))) (fCons (fV 0) (fNil)))) (fCons (fV 1) (fNil))))
def F_around : List Dat → Option Dat := runF s_around 0
theorem sc_around : FnScope ["rows", "change"] ["rows", "change"] (defScope (top 37)) := ⟨rfl, rfl, rfl, by decide +kernel, rfl, by decide +kernel, by decide +kernel⟩
theorem d_around (W : Wf K mg) : DefOk P w K mg base (CF K) 3 "around" 2 F_around := by
  obtain ⟨fd, F⟩ := W.d 11 rfl
  have nd := sc_around.nd
  exact defok F (fn_spf (k := 2) F sc_around (by decide) fun cdv A outer sh H hr => ⟨_, (ss_one (ss_ret (se_call (d_joined_tables W) (hr.mono (by decide)) (sa_cons (se_call (d_joined_tables W) (hr.mono (by decide)) (sa_cons (se_call (d_turned W) (hr.mono (by decide)) (sa_cons (se_var 1) sa_nil)) (sa_cons (se_var 0) sa_nil))) (sa_cons (se_var 1) sa_nil)))))⟩) (W.g 11 rfl) (F.bindsN fun _ _ _ _ _ _ us hl => match us, hl with | [_, _], _ => rfl)
end
end L3
set_option maxHeartbeats 4000000
namespace L3
open PySem L2 RZ
section
variable {P : Program} {w : World} {K : PySem.W.Frag} {mg : Str → Option Value} {base : Heap}
def s_lessened : En → Option Fl := sRet (fLst (fLc (fun ρ => ((fCons (fV 0) (fCons (fV 1) (fNil))) ρ).bind dZip) (gT (gsC (gN 4) (gsC (gN 5) (gsN)))) (fYes) (f2 dDiv (f2 dSub (f2 dMul (fV 4) (fIxL (fSq (fV 1)) (fV 2))) (f2 dMul (fIxL (fSq (fV 0)) (fV 2)) (fV 5))) (fV 3)) [4, 5]))
def F_lessened : List Dat → Option Dat := runF s_lessened 2
theorem sc_lessened : FnScope ["row", "lead", "step", "last", "own", "other"] ["row", "lead", "step", "last"] (defScope (top 39)) := ⟨rfl, rfl, rfl, by decide +kernel, rfl, by decide +kernel, by decide +kernel⟩
theorem d_lessened (W : Wf K mg) : DefOk P w K mg base (CF K) 1 "lessened" 4 F_lessened := by
  obtain ⟨fd, F⟩ := W.d 13 rfl
  have nd := sc_lessened.nd
  exact defok F (fn_spf (k := 0) F sc_lessened (by decide) fun cdv A outer sh H hr => ⟨_, (ss_one (ss_ret (SL.se (sl_lc (own := [("own", 4), ("other", 5)]) rfl nd (blkOk_by (own := [("own", 4), ("other", 5)]) (by kernel_rfl)) (by decide) (SI.w (si_zipK (K := K) W.b_zip (sa_cons (se_var 0) (sa_cons (se_var 1) sa_nil)))) (fun _ _ _ _ _ => (sg_tupK (K := K) rfl (sgs_cons (sg_name 4 nd) (sgs_cons (sg_name 5 nd) sgs_nil)))) (fun _ _ _ _ _ => sts_nil) (fun _ _ _ _ _ => (se_div (se_sub (se_mul (se_var 4) (se_ixK (K := K) (SE.sq (se_var 1)) (se_var 2))) (se_mul (se_ixK (K := K) (SE.sq (se_var 0)) (se_var 2)) (se_var 5))) (se_var 3)))))))⟩) (W.g 13 rfl) (F.bindsN fun _ _ _ _ _ _ us hl => match us, hl with | [_, _, _, _], _ => rfl)
def s_determinant : En → Option Fl := sSeq (sPar [1, 2, 3] (bL (fLc (fSq (fV 0)) (gN 4) (fYes) (fLst (fSq (fV 4))) [4]) (bF (fK (.int 1)) (bF (fK (.int 1)) (bNil)))))
  (sSeq (sFor (fRng1 (fCons (f2 dSub (fC dLen (fO 1)) (fK (.int 1))) (fNil))) (gN 5) (sSeq (sSet 6 (fLst (fLc (fRng2 (fCons (fV 5) (fCons (fC dLen (fO 1)) (fNil)))) (gN 7) (fB (f2 dNe (fIxL (fSq (fIxL (fO 1) (fV 7))) (fV 5)) (fK (.int 0)))) (fV 7) [7])))
  (sSeq (sIf (fB (fC dEqNil (fUn (fV 6)))) (sRet (fK (.int 0))) (sNext))
  (sSeq (sIf (fB (f2 dNe (fIxL (fSq (fV 6)) (fK (.int 0))) (fV 5))) (sSeq (sSwap 1 (fV 5) (fIxL (fSq (fV 6)) (fK (.int 0))) (fIxL (fO 1) (fIxL (fSq (fV 6)) (fK (.int 0)))) (fIxL (fO 1) (fV 5)))
  (sSet 2 (f1 dNeg (fV 2)))) (sNext))
  (sSeq (sSet 8 (fIxL (fO 1) (fV 5)))
  (sSeq (sFor (fRng2 (fCons (f2 dAdd (fV 5) (fK (.int 1))) (fCons (fC dLen (fO 1)) (fNil)))) (gN 7) (sSetI 1 (fV 7) (fC F_lessened (fCons (fIxL (fO 1) (fV 7)) (fCons (fV 8) (fCons (fV 5) (fCons (fV 3) (fNil))))))))
  (sSet 3 (fIxL (fSq (fV 8)) (fV 5)))))))))
  (sRet (f2 dMul (fV 2) (fIxL (fSq (fIxL (fO 1) (f1 dNeg (fK (.int 1))))) (f1 dNeg (fK (.int 1)))))))
def F_determinant : List Dat → Option Dat := runF s_determinant 8
theorem sc_determinant : FnScope ["rows", "left", "sign", "last", "row", "step", "spots", "index", "lead"] ["rows"] (defScope (top 38)) := ⟨rfl, rfl, rfl, by decide +kernel, rfl, by decide +kernel, by decide +kernel⟩
theorem d_determinant (W : Wf K mg) : DefOk P w K mg base (CF K) 2 "determinant" 1 F_determinant := by
  obtain ⟨fd, F⟩ := W.d 12 rfl
  have nd := sc_determinant.nd
  exact defok F (fn_spf (k := 1) F sc_determinant (by decide) fun cdv A outer sh H hr => ⟨_, (ss_cons (ss_parT rfl (snm_cons 1 nd (snm_cons 2 nd (snm_cons 3 nd snm_nil))) (sb_l (sl_lc (own := [("row", 4)]) rfl nd (blkOk_by (own := [("row", 4)]) (by kernel_rfl)) (by decide) (SI.w (si_seqK (K := K) (se_var 0))) (fun _ _ _ _ _ => (sg_name 4 nd)) (fun _ _ _ _ _ => sts_nil) (fun _ _ _ _ _ => (SL.se (sl_listofK (K := K) W.b_list (SE.sq (se_var 4)))))) (sb_f se_int (sb_f se_int sb_nil))))
  (ss_cons (ss_for PassesOwn.never rfl (si_rng1 W.b_range (sa_cons (se_sub (se_lenK (K := K) W.b_len (SW.sq (sw_ow 1))) se_int) sa_nil)) (sg_name 5 nd) (ss_cons (ss_lc 6 (by rfl) (own := [("index", 7)]) rfl nd (blkOk_by (own := [("index", 7)]) (by kernel_rfl)) (by decide) (SI.w (si_rng2 W.b_range (sa_cons (se_var 5) (sa_cons (se_lenK (K := K) W.b_len (SW.sq (sw_ow 1))) sa_nil)))) (fun _ _ _ _ _ => (sg_name 7 nd)) (fun _ _ _ _ _ => (sts_one (st_ne (se_ixK (K := K) (SE.sq (se_ixK (K := K) (SW.sq (sw_ow 1)) (se_var 7))) (se_var 5)) se_int))) (fun _ _ _ _ _ => (se_var 7)))
  (ss_cons (ss_if (st_eqNilK (K := K) hr.units (SE.sw (se_var 6))) (ss_one (ss_ret se_int)) ss_nil)
  (ss_cons (ss_if (st_ne (se_ixK (K := K) (SE.sq (se_var 6)) se_int) (se_var 5)) (ss_cons (ss_swap 1 rfl (se_ixK (K := K) (SW.sq (sw_ow 1)) (se_ixK (K := K) (SE.sq (se_var 6)) se_int)) (se_ixK (K := K) (SW.sq (sw_ow 1)) (se_var 5)) (se_var 5) (se_ixK (K := K) (SE.sq (se_var 6)) se_int))
  (ss_one (ss_set 2 nd (se_neg (se_var 2))))) ss_nil)
  (ss_cons (ss_set 8 nd (se_ixK (K := K) (SW.sq (sw_ow 1)) (se_var 5)))
  (ss_cons (ss_for PassesOwn.never rfl (si_rng2 W.b_range (sa_cons (se_add (se_var 5) se_int) (sa_cons (se_lenK (K := K) W.b_len (SW.sq (sw_ow 1))) sa_nil))) (sg_name 7 nd) (ss_one (ss_setI 1 (se_call (d_lessened W) (hr.mono (by decide)) (sa_cons (se_ixK (K := K) (SW.sq (sw_ow 1)) (se_var 7)) (sa_cons (se_var 8) (sa_cons (se_var 5) (sa_cons (se_var 3) sa_nil))))) (se_var 7))))
  (ss_one (ss_set 3 nd (se_ixK (K := K) (SE.sq (se_var 8)) (se_var 5))))))))))
  (ss_one (ss_ret (se_mul (se_var 2) (se_ixK (K := K) (SE.sq (se_ixK (K := K) (SW.sq (sw_ow 1)) (se_neg se_int))) (se_neg se_int)))))))⟩) (W.g 12 rfl) (F.bindsN fun _ _ _ _ _ _ us hl => match us, hl with | [_], _ => rfl)
end
end L3
set_option maxHeartbeats 4000000
namespace L3
open PySem L2 RZ
section
variable {P : Program} {w : World} {K : PySem.W.Frag} {mg : Str → Option Value} {base : Heap}
def s_cofactor : En → Option Fl := sSeq (sSet 3 (fLst (fLc (fEnum (fV 0)) (gT (gsC (gN 6) (gsC (gN 7) (gsN)))) (fB (f2 dNe (fV 6) (fV 1))) (fLst (fLc (fEnum (fV 7)) (gT (gsC (gN 4) (gsC (gN 5) (gsN)))) (fB (f2 dNe (fV 4) (fV 2))) (fV 5) [4, 5])) [6, 7])))
  (sSeq (sSet 8 (fIf (fB (f2 dEq (f2 dMod (f2 dAdd (fV 1) (fV 2)) (fK (.int 2))) (fK (.int 0)))) (fK (.int 1)) (f1 dNeg (fK (.int 1)))))
  (sRet (fIf (fB (fC dNeNil (fUn (fV 3)))) (f2 dMul (fV 8) (fC F_determinant (fCons (fV 3) (fNil)))) (fV 8))))
def F_cofactor : List Dat → Option Dat := runF s_cofactor 6
theorem sc_cofactor : FnScope ["rows", "row", "column", "rest", "at", "own", "index", "line", "sign"] ["rows", "row", "column"] (defScope (top 41)) := ⟨rfl, rfl, rfl, by decide +kernel, rfl, by decide +kernel, by decide +kernel⟩
theorem d_cofactor (W : Wf K mg) : DefOk P w K mg base (CF K) 3 "cofactor" 3 F_cofactor := by
  obtain ⟨fd, F⟩ := W.d 15 rfl
  have nd := sc_cofactor.nd
  exact defok F (fn_spf (k := 2) F sc_cofactor (by decide) fun cdv A outer sh H hr => ⟨_, (ss_cons (ss_lc 3 (by rfl) (own := [("index", 6), ("line", 7)]) rfl nd (blkOk_by (own := [("index", 6), ("line", 7)]) (by kernel_rfl)) (by decide) (SI.w (si_enumK (K := K) W.b_enumerate (se_var 0))) (fun _ _ _ _ _ => (sg_tupK (K := K) rfl (sgs_cons (sg_name 6 nd) (sgs_cons (sg_name 7 nd) sgs_nil)))) (fun _ _ _ _ _ => (sts_one (st_ne (se_var 6) (se_var 1)))) (fun _ _ _ _ _ => (SL.se (sl_lc (own := [("at", 4), ("own", 5)]) rfl nd (blkOk_by (own := [("at", 4), ("own", 5)]) (by kernel_rfl)) (by decide) (SI.w (si_enumK (K := K) W.b_enumerate (se_var 7))) (fun _ _ _ _ _ => (sg_tupK (K := K) rfl (sgs_cons (sg_name 4 nd) (sgs_cons (sg_name 5 nd) sgs_nil)))) (fun _ _ _ _ _ => (sts_one (st_ne (se_var 4) (se_var 2)))) (fun _ _ _ _ _ => (se_var 5))))))
  (ss_cons (ss_set 8 nd (se_if (st_eq (se_mod (se_add (se_var 1) (se_var 2)) se_int) se_int) se_int (se_neg se_int)))
  (ss_one (ss_ret (se_if (st_neNilK (K := K) hr.units (SE.sw (se_var 3))) (se_mul (se_var 8) (se_call (d_determinant W) (hr.mono (by decide)) (sa_cons (se_var 3) sa_nil))) (se_var 8))))))⟩) (W.g 15 rfl) (F.bindsN fun _ _ _ _ _ _ us hl => match us, hl with | [_, _, _], _ => rfl)
def s_inverse_of : En → Option Fl := sSeq (sPar [1, 2] (bF (fC dLen (fSq (fV 0))) (bF (fC F_determinant (fCons (fV 0) (fNil))) (bNil))))
  (sSeq (sSetO 3 (fNil))
  (sSeq (sFor (fRng1 (fCons (fV 1) (fNil))) (gN 4) (sApp 3 (fC dTup (fLc (fRng1 (fCons (fV 1) (fNil))) (gN 5) (fYes) (f2 dMul (fV 2) (fC F_cofactor (fCons (fV 0) (fCons (fV 5) (fCons (fV 4) (fNil)))))) [5]))))
  (sRet (fC dTup (fO 3)))))
def F_inverse_of : List Dat → Option Dat := runF s_inverse_of 5
theorem sc_inverse_of : FnScope ["rows", "size", "whole", "found", "row", "column"] ["rows"] (defScope (top 40)) := ⟨rfl, rfl, rfl, by decide +kernel, rfl, by decide +kernel, by decide +kernel⟩
theorem d_inverse_of (W : Wf K mg) : DefOk P w K mg base (CF K) 4 "inverse_of" 1 F_inverse_of := by
  obtain ⟨fd, F⟩ := W.d 14 rfl
  have nd := sc_inverse_of.nd
  exact defok F (fn_spf (k := 3) F sc_inverse_of (by decide) fun cdv A outer sh H hr => ⟨_, (ss_cons (ss_parT rfl (snm_cons 1 nd (snm_cons 2 nd snm_nil)) (sb_f (se_lenK (K := K) W.b_len (SE.sq (se_var 0))) (sb_f (se_call (d_determinant W) (hr.mono (by decide)) (sa_cons (se_var 0) sa_nil)) sb_nil)))
  (ss_cons (ss_setO 3 nd (sl_lst sa_nil))
  (ss_cons (ss_for PassesOwn.never rfl (si_rng1 W.b_range (sa_cons (se_var 1) sa_nil)) (sg_name 4 nd) (ss_one (ss_app 3 (se_tupofK (K := K) W.b_tuple (SW.sq (SL.sw (sl_lc (own := [("column", 5)]) rfl nd (blkOk_by (own := [("column", 5)]) (by kernel_rfl)) (by decide) (SI.w (si_rng1 W.b_range (sa_cons (se_var 1) sa_nil))) (fun _ _ _ _ _ => (sg_name 5 nd)) (fun _ _ _ _ _ => sts_nil) (fun _ _ _ _ _ => (se_mul (se_var 2) (se_call (d_cofactor W) (hr.mono (by decide)) (sa_cons (se_var 0) (sa_cons (se_var 5) (sa_cons (se_var 4) sa_nil)))))))))))))
  (ss_one (ss_ret (se_tupofK (K := K) W.b_tuple (SW.sq (sw_ow 3))))))))⟩) (W.g 14 rfl) (F.bindsN fun _ _ _ _ _ _ us hl => match us, hl with | [_], _ => rfl)
def s_fraction : En → Option Fl := sSeq (sSet 2 (fC F_common_divisor (fCons (fV 0) (fCons (fV 1) (fNil)))))
  (sSeq (sSet 2 (fIf (fB (f2 dGt (fV 1) (fK (.int 0)))) (fV 2) (f1 dNeg (fV 2))))
  (sRet (fTup (fCons (f2 dDiv (fV 0) (fV 2)) (fCons (f2 dDiv (fV 1) (fV 2)) (fNil))))))
def F_fraction : List Dat → Option Dat := runF s_fraction 1
theorem sc_fraction : FnScope ["top", "bottom", "common"] ["top", "bottom"] (defScope (top 42)) := ⟨rfl, rfl, rfl, by decide +kernel, rfl, by decide +kernel, by decide +kernel⟩
theorem d_fraction (W : Wf K mg) : DefOk P w K mg base (CF K) 2 "fraction" 2 F_fraction := by
  obtain ⟨fd, F⟩ := W.d 16 rfl
  have nd := sc_fraction.nd
  exact defok F (fn_spf (k := 1) F sc_fraction (by decide) fun cdv A outer sh H hr => ⟨_, (ss_cons (ss_set 2 nd (se_call (d_common_divisor W) (hr.mono (by decide)) (sa_cons (se_var 0) (sa_cons (se_var 1) sa_nil))))
  (ss_cons (ss_set 2 nd (se_if (st_gt (se_var 1) se_int) (se_var 2) (se_neg (se_var 2))))
  (ss_one (ss_ret (se_tup (sa_cons (se_div (se_var 0) (se_var 2)) (sa_cons (se_div (se_var 1) (se_var 2)) sa_nil)))))))⟩) (W.g 16 rfl) (F.bindsN fun _ _ _ _ _ _ us hl => match us, hl with | [_, _], _ => rfl)
def s_behind : En → Option Fl := sSeq (sIf (fB (f2 dEq (fIxL (fSq (fIxL (fSq (fV 1)) (fK (.int 0)))) (fK (.int 0))) (fK (.int 0)))) (sRet (fLst (fDrop (fUn (fV 0)) (fK (.int 1))))) (sNext))
  (sSeq (sSet 2 (fC F_fraction (fCons (f2 dMul (fIxL (fSq (fIxL (fSq (fV 0)) (fK (.int 0)))) (fK (.int 0))) (fIxL (fSq (fIxL (fSq (fV 1)) (fK (.int 0)))) (fK (.int 1)))) (fCons (f2 dMul (fIxL (fSq (fIxL (fSq (fV 0)) (fK (.int 0)))) (fK (.int 1))) (fIxL (fSq (fIxL (fSq (fV 1)) (fK (.int 0)))) (fK (.int 0)))) (fNil)))))
  (sSeq (sSetO 3 (fNil))
  (sSeq (sFor (fun ρ => ((fCons (fLst (fDrop (fUn (fV 0)) (fK (.int 1)))) (fCons (fLst (fDrop (fUn (fV 1)) (fK (.int 1)))) (fNil))) ρ).bind dZip) (gT (gsC (gN 4) (gsC (gN 5) (gsN)))) (sSeq (sSet 6 (f2 dSub (f2 dMul (f2 dMul (fIxL (fSq (fV 4)) (fK (.int 0))) (fIxL (fSq (fV 2)) (fK (.int 1)))) (fIxL (fSq (fV 5)) (fK (.int 1)))) (f2 dMul (f2 dMul (fIxL (fSq (fV 2)) (fK (.int 0))) (fIxL (fSq (fV 5)) (fK (.int 0)))) (fIxL (fSq (fV 4)) (fK (.int 1))))))
  (sApp 3 (fC F_fraction (fCons (fV 6) (fCons (f2 dMul (f2 dMul (fIxL (fSq (fV 4)) (fK (.int 1))) (fIxL (fSq (fV 2)) (fK (.int 1)))) (fIxL (fSq (fV 5)) (fK (.int 1)))) (fNil)))))))
  (sRetO (fO 3)))))
def F_behind : List Dat → Option Dat := runF s_behind 5
theorem sc_behind : FnScope ["row", "lead", "many", "found", "own", "other", "top"] ["row", "lead"] (defScope (top 44)) := ⟨rfl, rfl, rfl, by decide +kernel, rfl, by decide +kernel, by decide +kernel⟩
theorem d_behind (W : Wf K mg) : DefOk P w K mg base (CF K) 3 "behind" 2 F_behind := by
  obtain ⟨fd, F⟩ := W.d 18 rfl
  have nd := sc_behind.nd
  exact defok F (fn_spf (k := 2) F sc_behind (by decide) fun cdv A outer sh H hr => ⟨_, (ss_cons (ss_if (st_eq (se_ixK (K := K) (SE.sq (se_ixK (K := K) (SE.sq (se_var 1)) se_int)) se_int) se_int) (ss_one (ss_ret (SL.se (sl_dropK (K := K) (SE.sw (se_var 0)) se_int)))) ss_nil)
  (ss_cons (ss_set 2 nd (se_call (d_fraction W) (hr.mono (by decide)) (sa_cons (se_mul (se_ixK (K := K) (SE.sq (se_ixK (K := K) (SE.sq (se_var 0)) se_int)) se_int) (se_ixK (K := K) (SE.sq (se_ixK (K := K) (SE.sq (se_var 1)) se_int)) se_int)) (sa_cons (se_mul (se_ixK (K := K) (SE.sq (se_ixK (K := K) (SE.sq (se_var 0)) se_int)) se_int) (se_ixK (K := K) (SE.sq (se_ixK (K := K) (SE.sq (se_var 1)) se_int)) se_int)) sa_nil))))
  (ss_cons (ss_setO 3 nd (sl_lst sa_nil))
  (ss_cons (ss_for PassesOwn.never rfl (si_zipK (K := K) W.b_zip (sa_cons (SL.se (sl_dropK (K := K) (SE.sw (se_var 0)) se_int)) (sa_cons (SL.se (sl_dropK (K := K) (SE.sw (se_var 1)) se_int)) sa_nil))) (sg_tupK (K := K) rfl (sgs_cons (sg_name 4 nd) (sgs_cons (sg_name 5 nd) sgs_nil))) (ss_cons (ss_set 6 nd (se_sub (se_mul (se_mul (se_ixK (K := K) (SE.sq (se_var 4)) se_int) (se_ixK (K := K) (SE.sq (se_var 2)) se_int)) (se_ixK (K := K) (SE.sq (se_var 5)) se_int)) (se_mul (se_mul (se_ixK (K := K) (SE.sq (se_var 2)) se_int) (se_ixK (K := K) (SE.sq (se_var 5)) se_int)) (se_ixK (K := K) (SE.sq (se_var 4)) se_int))))
  (ss_one (ss_app 3 (se_call (d_fraction W) (hr.mono (by decide)) (sa_cons (se_var 6) (sa_cons (se_mul (se_mul (se_ixK (K := K) (SE.sq (se_var 4)) se_int) (se_ixK (K := K) (SE.sq (se_var 2)) se_int)) (se_ixK (K := K) (SE.sq (se_var 5)) se_int)) sa_nil)))))))
  (ss_one (ss_retO 3))))))⟩) (W.g 18 rfl) (F.bindsN fun _ _ _ _ _ _ us hl => match us, hl with | [_, _], _ => rfl)
def s_exchanged : En → Option Fl := sSeq (sSetO 3 (fLrg (fC dLen (fSq (fV 0)))))
  (sSeq (sSwap 3 (fV 1) (fV 2) (fIxL (fO 3) (fV 2)) (fIxL (fO 3) (fV 1)))
  (sRet (fLst (fLc (fO 3) (gN 5) (fYes) (fLst (fLc (fO 3) (gN 4) (fYes) (fIxL (fSq (fIxL (fSq (fV 0)) (fV 5))) (fV 4)) [4])) [5]))))
def F_exchanged : List Dat → Option Dat := runF s_exchanged 3
theorem sc_exchanged : FnScope ["rows", "one", "other", "order", "column", "row"] ["rows", "one", "other"] (defScope (top 46)) := ⟨rfl, rfl, rfl, by decide +kernel, rfl, by decide +kernel, by decide +kernel⟩
theorem d_exchanged (W : Wf K mg) : DefOk P w K mg base (CF K) 1 "exchanged" 3 F_exchanged := by
  obtain ⟨fd, F⟩ := W.d 20 rfl
  have nd := sc_exchanged.nd
  exact defok F (fn_spf (k := 0) F sc_exchanged (by decide) fun cdv A outer sh H hr => ⟨_, (ss_cons (ss_setO 3 nd (sl_listrg rfl W.b_list W.b_range (se_lenK (K := K) W.b_len (SE.sq (se_var 0)))))
  (ss_cons (ss_swap 3 rfl (se_ixK (K := K) (SW.sq (sw_ow 3)) (se_var 2)) (se_ixK (K := K) (SW.sq (sw_ow 3)) (se_var 1)) (se_var 1) (se_var 2))
  (ss_one (ss_ret (SL.se (sl_lc (own := [("row", 5)]) rfl nd (blkOk_by (own := [("row", 5)]) (by kernel_rfl)) (by decide) (siw_owK (K := K) (sw_ow 3)) (fun _ _ _ _ _ => (sg_name 5 nd)) (fun _ _ _ _ _ => sts_nil) (fun _ _ _ _ _ => (SL.se (sl_lc (own := [("column", 4)]) rfl nd (blkOk_by (own := [("column", 4)]) (by kernel_rfl)) (by decide) (siw_owK (K := K) (sw_ow 3)) (fun _ _ _ _ _ => (sg_name 4 nd)) (fun _ _ _ _ _ => sts_nil) (fun _ _ _ _ _ => (se_ixK (K := K) (SE.sq (se_ixK (K := K) (SE.sq (se_var 0)) (se_var 5))) (se_var 4))))))))))))⟩) (W.g 20 rfl) (F.bindsN fun _ _ _ _ _ _ us hl => match us, hl with | [_, _, _], _ => rfl)
def s_with_lead : En → Option Fl := sSeq (sSet 1 (fC dLen (fSq (fV 0))))
  (sSeq (sFor (fRng1 (fCons (fV 1) (fNil))) (gN 2) (sIf (fB (f2 dNe (fIxL (fSq (fIxL (fSq (fIxL (fSq (fV 0)) (fV 2))) (fV 2))) (fK (.int 0))) (fK (.int 0)))) (sRet (fC F_exchanged (fCons (fV 0) (fCons (fK (.int 0)) (fCons (fV 2) (fNil)))))) (sNext)))
  (sSeq (sNever)
  (sRet (fV 0))))
def F_with_lead : List Dat → Option Dat := runF s_with_lead 4
theorem sc_with_lead : FnScope ["rows", "size", "index", "row", "column"] ["rows"] (defScope (top 45)) := ⟨rfl, rfl, rfl, by decide +kernel, rfl, by decide +kernel, by decide +kernel⟩
theorem d_with_lead (W : Wf K mg) : DefOk P w K mg base (CF K) 2 "with_lead" 1 F_with_lead := by
  obtain ⟨fd, F⟩ := W.d 19 rfl
  have nd := sc_with_lead.nd
  exact defok F (fn_spf (k := 1) F sc_with_lead (by decide) fun cdv A outer sh H hr => ⟨_, (ss_cons (ss_set 1 nd (se_lenK (K := K) W.b_len (SE.sq (se_var 0))))
  (ss_cons (ss_for PassesOwn.never rfl (si_rng1 W.b_range (sa_cons (se_var 1) sa_nil)) (sg_name 2 nd) (ss_one (ss_if (st_ne (se_ixK (K := K) (SE.sq (se_ixK (K := K) (SE.sq (se_ixK (K := K) (SE.sq (se_var 0)) (se_var 2))) (se_var 2))) se_int) se_int) (ss_one (ss_ret (se_call (d_exchanged W) (hr.mono (by decide)) (sa_cons (se_var 0) (sa_cons se_int (sa_cons (se_var 2) sa_nil)))))) ss_nil)))
  (ss_cons ss_never
  (ss_one (ss_ret (se_var 0))))))⟩) (W.g 19 rfl) (F.bindsN fun _ _ _ _ _ _ us hl => match us, hl with | [_], _ => rfl)
def s_diagonal : En → Option Fl := sSeq (sPar [1, 2] (bF (fLst (fLc (fSq (fV 0)) (gN 4) (fYes) (fLst (fLc (fSq (fV 4)) (gN 3) (fYes) (fTup (fCons (fV 3) (fCons (fK (.int 1)) (fNil)))) [3])) [4])) (bL (fNil) (bNil))))
  (sSeq (sWhile (fB (fC dNeNil (fUn (fV 1)))) (sSeq (sSet 1 (fC F_with_lead (fCons (fV 1) (fNil))))
  (sSeq (sSet 5 (fIxL (fSq (fV 1)) (fK (.int 0))))
  (sSeq (sApp 2 (fIxL (fSq (fV 5)) (fK (.int 0))))
  (sSet 1 (fLst (fLc (fSq (fLst (fDrop (fUn (fV 1)) (fK (.int 1))))) (gN 4) (fYes) (fC F_behind (fCons (fV 4) (fCons (fV 5) (fNil)))) [4])))))))
  (sRetO (fO 2)))
def F_diagonal : List Dat → Option Dat := runF s_diagonal 5
theorem sc_diagonal : FnScope ["rows", "left", "found", "value", "row", "lead"] ["rows"] (defScope (top 43)) := ⟨rfl, rfl, rfl, by decide +kernel, rfl, by decide +kernel, by decide +kernel⟩
theorem d_diagonal (W : Wf K mg) : DefOk P w K mg base (CF K) 4 "diagonal" 1 F_diagonal := by
  obtain ⟨fd, F⟩ := W.d 17 rfl
  have nd := sc_diagonal.nd
  exact defok F (fn_spf (k := 3) F sc_diagonal (by decide) fun cdv A outer sh H hr => ⟨_, (ss_cons (ss_par2 1 2 rfl nd (sb_f (SL.se (sl_lc (own := [("row", 4)]) rfl nd (blkOk_by (own := [("row", 4)]) (by kernel_rfl)) (by decide) (SI.w (si_seqK (K := K) (se_var 0))) (fun _ _ _ _ _ => (sg_name 4 nd)) (fun _ _ _ _ _ => sts_nil) (fun _ _ _ _ _ => (SL.se (sl_lc (own := [("value", 3)]) rfl nd (blkOk_by (own := [("value", 3)]) (by kernel_rfl)) (by decide) (SI.w (si_seqK (K := K) (se_var 4))) (fun _ _ _ _ _ => (sg_name 3 nd)) (fun _ _ _ _ _ => sts_nil) (fun _ _ _ _ _ => (se_tup (sa_cons (se_var 3) (sa_cons se_int sa_nil))))))))) (sb_l (sl_lst sa_nil) sb_nil)))
  (ss_cons (ss_while PassesOwn.never (st_neNilK (K := K) hr.units (SE.sw (se_var 1))) (ss_cons (ss_set 1 nd (se_call (d_with_lead W) (hr.mono (by decide)) (sa_cons (se_var 1) sa_nil)))
  (ss_cons (ss_set 5 nd (se_ixK (K := K) (SE.sq (se_var 1)) se_int))
  (ss_cons (ss_app 2 (se_ixK (K := K) (SE.sq (se_var 5)) se_int))
  (ss_one (ss_lc 1 (by rfl) (own := [("row", 4)]) rfl nd (blkOk_by (own := [("row", 4)]) (by kernel_rfl)) (by decide) (SI.w (si_seqK (K := K) (SL.se (sl_dropK (K := K) (SE.sw (se_var 1)) se_int)))) (fun _ _ _ _ _ => (sg_name 4 nd)) (fun _ _ _ _ _ => sts_nil) (fun _ _ _ _ _ => (se_call (d_behind W) (hr.mono (by decide)) (sa_cons (se_var 4) (sa_cons (se_var 5) sa_nil))))))))))
  (ss_one (ss_retO 2))))⟩) (W.g 17 rfl) (F.bindsN fun _ _ _ _ _ _ us hl => match us, hl with | [_], _ => rfl)
def s_pairs_of : En → Option Fl := sRet (fLst (fLc2 (fRng1 (fCons (fV 0) (fNil))) (gN 1) fYes (fInn (fRng2 (fCons (fV 1) (fCons (fV 0) (fNil)))) (gN 2) fYes (fTup (fCons (fV 1) (fCons (fV 2) (fNil)))) [2]) [1, 2]))
def F_pairs_of : List Dat → Option Dat := runF s_pairs_of 2
theorem sc_pairs_of : FnScope ["size", "row", "column"] ["size"] (defScope (top 52)) := ⟨rfl, rfl, rfl, by decide +kernel, rfl, by decide +kernel, by decide +kernel⟩
theorem d_pairs_of (W : Wf K mg) : DefOk P w K mg base (CF K) 1 "pairs_of" 1 F_pairs_of := by
  obtain ⟨fd, F⟩ := W.d 21 rfl
  have nd := sc_pairs_of.nd
  exact defok F (fn_spf (k := 0) F sc_pairs_of (by decide) fun cdv A outer sh H hr => ⟨_, (ss_one (ss_ret (SL.se (sl_lc2 (own := [("row", 1), ("column", 2)]) (vs1 := [2]) rfl nd (blkOk_by (own := [("row", 1), ("column", 2)]) (by kernel_rfl)) (by decide) (by decide) (by decide) (SI.w (si_rng1 W.b_range (sa_cons (se_var 0) sa_nil))) (fun _ _ _ _ _ => (sg_name 1 nd)) (fun _ _ _ _ _ => sts_nil) (fun _ _ _ _ _ => (si_rng2 W.b_range (sa_cons (se_var 1) (sa_cons (se_var 0) sa_nil)))) (fun _ _ _ _ _ => (sg_name 2 nd)) (fun _ _ _ _ _ => sts_nil) (fun _ _ _ _ _ => (se_tup (sa_cons (se_var 1) (sa_cons (se_var 2) sa_nil))))))))⟩) (W.g 21 rfl) (F.bindsN fun _ _ _ _ _ _ us hl => match us, hl with | [_], _ => rfl)
def s_coefficients_for : En → Option Fl := sRet (fC dTup (fLc (fSq (fC F_pairs_of (fCons (fC dLen (fSq (fV 0))) (fNil)))) (gT (gsC (gN 1) (gsC (gN 2) (gsN)))) (fYes) (f2 dDiv (fIxL (fSq (fIxL (fSq (fV 0)) (fV 1))) (fV 2)) (fIf (fB (f2 dEq (fV 1) (fV 2))) (fK (.int 2)) (fK (.int 1)))) [1, 2]))
def F_coefficients_for : List Dat → Option Dat := runF s_coefficients_for 2
theorem sc_coefficients_for : FnScope ["rows", "row", "column"] ["rows"] (defScope (top 54)) := ⟨rfl, rfl, rfl, by decide +kernel, rfl, by decide +kernel, by decide +kernel⟩
theorem d_coefficients_for (W : Wf K mg) : DefOk P w K mg base (CF K) 2 "coefficients_for" 1 F_coefficients_for := by
  obtain ⟨fd, F⟩ := W.d 23 rfl
  have nd := sc_coefficients_for.nd
  exact defok F (fn_spf (k := 1) F sc_coefficients_for (by decide) fun cdv A outer sh H hr => ⟨_, (ss_one (ss_ret (se_tupofK (K := K) W.b_tuple (SW.sq (SL.sw (sl_lc (own := [("row", 1), ("column", 2)]) rfl nd (blkOk_by (own := [("row", 1), ("column", 2)]) (by kernel_rfl)) (by decide) (SI.w (si_seqK (K := K) (se_call (d_pairs_of W) (hr.mono (by decide)) (sa_cons (se_lenK (K := K) W.b_len (SE.sq (se_var 0))) sa_nil)))) (fun _ _ _ _ _ => (sg_tupK (K := K) rfl (sgs_cons (sg_name 1 nd) (sgs_cons (sg_name 2 nd) sgs_nil)))) (fun _ _ _ _ _ => sts_nil) (fun _ _ _ _ _ => (se_div (se_ixK (K := K) (SE.sq (se_ixK (K := K) (SE.sq (se_var 0)) (se_var 1))) (se_var 2)) (se_if (st_eq (se_var 1) (se_var 2)) se_int se_int)))))))))⟩) (W.g 23 rfl) (F.bindsN fun _ _ _ _ _ _ us hl => match us, hl with | [_], _ => rfl)
end
end L3
set_option maxHeartbeats 4000000
namespace L3
open PySem L2 RZ
section
variable {P : Program} {w : World} {K : PySem.W.Frag} {mg : Str → Option Value} {base : Heap}
def s_is_row : En → Option Fl := sSeq (sIf (fOr (fNot (fB (f1 (dIsi .tuple) (fV 0)))) (fB (f2 dNe (fC dLen (fSq (fV 0))) (fV 1)))) (sRet (fK (.bl false))) (sNext))
  (sRet (fC dAll (fLc (fSq (fV 0)) (gN 2) (fYes) (fC F_is_between (fCons (fV 2) (fCons (f1 dNeg (fK (.int (1000000000000000000000000000000000000000000000000000000000000000000000000000)))) (fCons (fK (.int (1000000000000000000000000000000000000000000000000000000000000000000000000000))) (fNil))))) [2])))
def F_is_row : List Dat → Option Dat := runF s_is_row 1
theorem sc_is_row : FnScope ["value", "size", "part"] ["value", "size"] (defScope (top 56)) := ⟨rfl, rfl, rfl, by decide +kernel, rfl, by decide +kernel, by decide +kernel⟩
theorem d_is_row (W : Wf K mg) : DefOk P w K mg base (CF K) 3 "is_row" 2 F_is_row := by
  obtain ⟨fd, F⟩ := W.d 24 rfl
  have nd := sc_is_row.nd
  exact defok F (fn_spf (k := 2) F sc_is_row (by decide) fun cdv A outer sh H hr => ⟨_, (ss_cons (ss_if (SWt.st (sw_or (st_not (st_val (se_isiK (K := K) W.b_isinstance W.b_tuple (se_var 0) .tuple))) (sw_or1 (st_ne (se_lenK (K := K) W.b_len (SE.sq (se_var 0))) (se_var 1))))) (ss_one (ss_ret se_bl)) ss_nil)
  (ss_one (ss_ret (se_allK (K := K) rfl W.b_all (SL.sw (sl_lc (own := [("part", 2)]) rfl nd (blkOk_by (own := [("part", 2)]) (by kernel_rfl)) (by decide) (SI.w (si_seqK (K := K) (se_var 0))) (fun _ _ _ _ _ => (sg_name 2 nd)) (fun _ _ _ _ _ => sts_nil) (fun _ _ _ _ _ => (se_call (d_is_between W) (hr.mono (by decide)) (sa_cons (se_var 2) (sa_cons (se_neg (se_gint (W.int_MOST_PASSED))) (sa_cons (se_gint (W.int_MOST_PASSED)) sa_nil)))))))))))⟩) (W.g 24 rfl) (F.bindsN fun _ _ _ _ _ _ us hl => match us, hl with | [_, _], _ => rfl)
def s_check_coefficients : En → Option Fl := sSeq (sIf (fOr (fNot (fB (f1 (dIsi .tuple) (fV 0)))) (fB (f1 dNinU (fC dLen (fSq (fV 0)))))) (sNever) (sNext))
  (sFor (fEnum (fV 0)) (gT (gsC (gN 1) (gsC (gN 2) (gsN)))) (sIf (fNot (fB (fC F_is_between (fCons (fV 2) (fCons (f1 dNeg (fK (.int (1000000000000)))) (fCons (fK (.int (1000000000000))) (fNil))))))) (sNever) (sNext)))
def F_check_coefficients : List Dat → Option Dat := runF s_check_coefficients 2
theorem sc_check_coefficients : FnScope ["values", "index", "value"] ["values"] (defScope (top 58)) := ⟨rfl, rfl, rfl, by decide +kernel, rfl, by decide +kernel, by decide +kernel⟩
theorem d_check_coefficients (W : Wf K mg) : DefOk P w K mg base (CF K) 3 "check_coefficients" 1 F_check_coefficients := by
  obtain ⟨fd, F⟩ := W.d 26 rfl
  have nd := sc_check_coefficients.nd
  exact defok F (fn_spf (k := 2) F sc_check_coefficients (by decide) fun cdv A outer sh H hr => ⟨_, (ss_cons (ss_if (SWt.st (sw_or (st_not (st_val (se_isiK (K := K) W.b_isinstance W.b_tuple (se_var 0) .tuple))) (sw_or1 (st_ninUK (K := K) W.un (se_lenK (K := K) W.b_len (SE.sq (se_var 0))))))) sss_never ss_nil)
  (ss_one (ss_for PassesOwn.never rfl (si_enumK (K := K) W.b_enumerate (se_var 0)) (sg_tupK (K := K) rfl (sgs_cons (sg_name 1 nd) (sgs_cons (sg_name 2 nd) sgs_nil))) (ss_one (ss_if (st_not (st_val (se_call (d_is_between W) (hr.mono (by decide)) (sa_cons (se_var 2) (sa_cons (se_neg (se_gint (W.int_MOST_SIZE))) (sa_cons (se_gint (W.int_MOST_SIZE)) sa_nil)))))) sss_never ss_nil)))))⟩) (W.g 26 rfl) (F.bindsN fun _ _ _ _ _ _ us hl => match us, hl with | [_], _ => rfl)
def s_first_beyond : En → Option Fl := sSeq (sSet 2 (fLst (fLc (fSq (fV 0)) (gN 3) (fB (f2 dGt (fC dAbs (fCons (fV 3) fNil)) (fV 1))) (fV 3) [3])))
  (sRet (fIf (fB (fC dNeNil (fUn (fV 2)))) (fIxL (fSq (fV 2)) (fK (.int 0))) (fK .non)))
def F_first_beyond : List Dat → Option Dat := runF s_first_beyond 2
theorem sc_first_beyond : FnScope ["coefficients", "most", "found", "own"] ["coefficients", "most"] (defScope (top 59)) := ⟨rfl, rfl, rfl, by decide +kernel, rfl, by decide +kernel, by decide +kernel⟩
theorem d_first_beyond (W : Wf K mg) : DefOk P w K mg base (CF K) 1 "first_beyond" 2 F_first_beyond := by
  obtain ⟨fd, F⟩ := W.d 27 rfl
  have nd := sc_first_beyond.nd
  exact defok F (fn_spf (k := 0) F sc_first_beyond (by decide) fun cdv A outer sh H hr => ⟨_, (ss_cons (ss_lc 2 (by rfl) (own := [("own", 3)]) rfl nd (blkOk_by (own := [("own", 3)]) (by kernel_rfl)) (by decide) (SI.w (si_seqK (K := K) (se_var 0))) (fun _ _ _ _ _ => (sg_name 3 nd)) (fun _ _ _ _ _ => (sts_one (st_gt (se_abs W.b_abs (se_var 3)) (se_var 1)))) (fun _ _ _ _ _ => (se_var 3)))
  (ss_one (ss_ret (se_if (st_neNilK (K := K) hr.units (SE.sw (se_var 2))) (se_ixK (K := K) (SE.sq (se_var 2)) se_int) se_non))))⟩) (W.g 27 rfl) (F.bindsN fun _ _ _ _ _ _ us hl => match us, hl with | [_, _], _ => rfl)
def s_signature_for : En → Option Fl := sSeq (sSet 1 (fC F_diagonal (fCons (fV 0) (fNil))))
  (sRet (fTup (fCons (fC dLen (fLc (fSq (fV 1)) (gN 2) (fB (f2 dGt (fIxL (fSq (fV 2)) (fK (.int 0))) (fK (.int 0)))) (fV 2) [2])) (fCons (fC dLen (fLc (fSq (fV 1)) (gN 2) (fB (f2 dLt (fIxL (fSq (fV 2)) (fK (.int 0))) (fK (.int 0)))) (fV 2) [2])) (fNil)))))
def F_signature_for : List Dat → Option Dat := runF s_signature_for 2
theorem sc_signature_for : FnScope ["rows", "weights", "one"] ["rows"] (defScope (top 61)) := ⟨rfl, rfl, rfl, by decide +kernel, rfl, by decide +kernel, by decide +kernel⟩
theorem d_signature_for (W : Wf K mg) : DefOk P w K mg base (CF K) 5 "signature_for" 1 F_signature_for := by
  obtain ⟨fd, F⟩ := W.d 29 rfl
  have nd := sc_signature_for.nd
  exact defok F (fn_spf (k := 4) F sc_signature_for (by decide) fun cdv A outer sh H hr => ⟨_, (ss_cons (ss_set 1 nd (se_call (d_diagonal W) (hr.mono (by decide)) (sa_cons (se_var 0) sa_nil)))
  (ss_one (ss_ret (se_tup (sa_cons (se_lenK (K := K) W.b_len (SW.sq (SL.sw (sl_lc (own := [("one", 2)]) rfl nd (blkOk_by (own := [("one", 2)]) (by kernel_rfl)) (by decide) (SI.w (si_seqK (K := K) (se_var 1))) (fun _ _ _ _ _ => (sg_name 2 nd)) (fun _ _ _ _ _ => (sts_one (st_gt (se_ixK (K := K) (SE.sq (se_var 2)) se_int) se_int))) (fun _ _ _ _ _ => (se_var 2)))))) (sa_cons (se_lenK (K := K) W.b_len (SW.sq (SL.sw (sl_lc (own := [("one", 2)]) rfl nd (blkOk_by (own := [("one", 2)]) (by kernel_rfl)) (by decide) (SI.w (si_seqK (K := K) (se_var 1))) (fun _ _ _ _ _ => (sg_name 2 nd)) (fun _ _ _ _ _ => (sts_one (st_lt (se_ixK (K := K) (SE.sq (se_var 2)) se_int) se_int))) (fun _ _ _ _ _ => (se_var 2)))))) sa_nil))))))⟩) (W.g 29 rfl) (F.bindsN fun _ _ _ _ _ _ us hl => match us, hl with | [_], _ => rfl)
def s_kind_for : En → Option Fl := sSeq (sAsg (fV 0) (gT (gsC (gN 2) (gsC (gN 3) (gsN)))))
  (sSeq (sIf (fB (f2 dLt (f2 dAdd (fV 2) (fV 3)) (fV 1))) (sRet (fK (.str "flat"))) (sNext))
  (sSeq (sIf (fB (f2 dEq (fV 3) (fK (.int 0)))) (sRet (fK (.str "positive"))) (sNext))
  (sRet (fIf (fB (f2 dGt (fV 2) (fK (.int 0)))) (fK (.str "mixed")) (fK (.str "negative"))))))
def F_kind_for : List Dat → Option Dat := runF s_kind_for 2
theorem sc_kind_for : FnScope ["signature", "size", "plus", "minus"] ["signature", "size"] (defScope (top 62)) := ⟨rfl, rfl, rfl, by decide +kernel, rfl, by decide +kernel, by decide +kernel⟩
theorem d_kind_for (W : Wf K mg) : DefOk P w K mg base (CF K) 1 "kind_for" 2 F_kind_for := by
  obtain ⟨fd, F⟩ := W.d 30 rfl
  have nd := sc_kind_for.nd
  exact defok F (fn_spf (k := 0) F sc_kind_for (by decide) fun cdv A outer sh H hr => ⟨_, (ss_cons (ss_asg (se_var 0) (sg_tupK (K := K) rfl (sgs_cons (sg_name 2 nd) (sgs_cons (sg_name 3 nd) sgs_nil))))
  (ss_cons (ss_if (st_lt (se_add (se_var 2) (se_var 3)) (se_var 1)) (ss_one (ss_ret se_str)) ss_nil)
  (ss_cons (ss_if (st_eq (se_var 3) se_int) (ss_one (ss_ret se_str)) ss_nil)
  (ss_one (ss_ret (se_if (st_gt (se_var 2) se_int) se_str se_str))))))⟩) (W.g 30 rfl) (F.bindsN fun _ _ _ _ _ _ us hl => match us, hl with | [_, _], _ => rfl)
def s_is_discriminant : En → Option Fl := sSeq (sIf (fOr (fNot (fB (fC F_is_between (fCons (fV 0) (fCons (fK (.int (-100000))) (fCons (fK (.int (1000))) (fNil))))))) (fB (f2 dGt (f2 dMod (fV 0) (fK (.int 4))) (fK (.int 1))))) (sRet (fK (.bl false))) (sNext))
  (sRet (fNotV (fC F_is_square (fCons (fV 0) (fNil)))))
def F_is_discriminant : List Dat → Option Dat := runF s_is_discriminant 0
theorem sc_is_discriminant : FnScope ["value"] ["value"] (defScope (top 66)) := ⟨rfl, rfl, rfl, by decide +kernel, rfl, by decide +kernel, by decide +kernel⟩
theorem d_is_discriminant (W : Wf K mg) : DefOk P w K mg base (CF K) 3 "is_discriminant" 1 F_is_discriminant := by
  obtain ⟨fd, F⟩ := W.d 32 rfl
  have nd := sc_is_discriminant.nd
  exact defok F (fn_spf (k := 2) F sc_is_discriminant (by decide) fun cdv A outer sh H hr => ⟨_, (ss_cons (ss_if (SWt.st (sw_or (st_not (st_val (se_call (d_is_between W) (hr.mono (by decide)) (sa_cons (se_var 0) (sa_cons (se_gint (W.int_LEAST_DISCRIMINANT)) (sa_cons (se_gint (W.int_MOST_DISCRIMINANT)) sa_nil)))))) (sw_or1 (st_gt (se_mod (se_var 0) se_int) se_int)))) (ss_one (ss_ret se_bl)) ss_nil)
  (ss_one (ss_ret (se_not (se_call (d_is_square W) (hr.mono (by decide)) (sa_cons (se_var 0) sa_nil))))))⟩) (W.g 32 rfl) (F.bindsN fun _ _ _ _ _ _ us hl => match us, hl with | [_], _ => rfl)
end
end L3
set_option maxHeartbeats 4000000
namespace L3
open PySem L2 RZ
section
variable {P : Program} {w : World} {K : PySem.W.Frag} {mg : Str → Option Value} {base : Heap}
def s_table_for : En → Option Fl := sSeq (sSet 1 (f1 dIxU (fC dLen (fSq (fV 0))))) (sSeq s_tb (sRet (fC dTup (fLc (fSq (fV 2)) (gN 3) (fYes) (fC dTup (fSq (fV 3))) [3]))))
def F_table_for : List Dat → Option Dat := runF s_table_for 5
theorem sc_table_for : FnScope ["coefficients", "size", "found", "row", "column", "own"] ["coefficients"] (defScope (top 53)) := ⟨rfl, rfl, rfl, by decide +kernel, rfl, by decide +kernel, by decide +kernel⟩
theorem F_pairs_of_2 : F_pairs_of [.int 2] = some (.lst datPairs) := by rfl
theorem fa_tb (ρ : En) (a b c : Int) (e0 : ρ[0]? = some (.fz (.tup [.int a, .int b, .int c]))) (e1 : ρ[1]? = some (.fz (.int 2))) : (fCons (fC F_pairs_of (fCons (fV 1) fNil)) (fCons (fV 0) fNil)) ρ = some [.lst datPairs, .tup [.int a, .int b, .int c]] := by
  have v0 : fV 0 ρ = some (.tup [.int a, .int b, .int c]) := by unfold fV; rw [e0]
  have v1 : fV 1 ρ = some (.int 2) := by unfold fV; rw [e1]
  have c1 : fC F_pairs_of (fCons (fV 1) fNil) ρ = some (.lst datPairs) := by
    show ((fV 1 ρ).bind fun x => (fNil ρ).bind fun r => some (x :: r)).bind F_pairs_of = _
    rw [v1]
    exact F_pairs_of_2
  show ((fC F_pairs_of (fCons (fV 1) fNil)) ρ).bind (fun x => ((fV 0 ρ).bind fun y => some [y]).bind fun r => some (x :: r)) = _
  rw [c1, v0]
  rfl
theorem sss_tb {X : Cx} {C : Addr} {st1 st2 : Stmt} {ea eb : Expr} {body rest : List Stmt} {zp zpos pos : Pos} {elts : List Expr} {kk : Nat} {tpos : Pos} {t1 t4 : TS} {ta : TA} {fa : En → Option (List Dat)} {s1 s4 : En → Option Fl} (h1 : SS X C st1 t1 s1) (p2 : PS X st2 tTb2)
    (hp : PassesOwn (model X.prog X.w) X.A X.env X.xe) (hc : X.calm = true) (hm : X.mg "zip" = none) (ha : SA X C [ea, eb] ta fa)
    (hfa : ∀ (ρ : En) (a b c : Int), ρ[0]? = some (.fz (.tup [.int a, .int b, .int c])) → ρ[1]? = some (.fz (.int 2)) → fa ρ = some [.lst datPairs, .tup [.int a, .int b, .int c]])
    (sg : SG X C (.Tuple elts kk tpos) [3, 4, 5] (gTb X.K) hTb) (pb : PSs X body (tSeq (tPut X.K 3 4) (tPut X.K 4 3))) (h4 : SSs X C rest t4 s4) (hg : Gl X "zip" := by rfl)
    (hs : starEach [ea, eb] X.env = (false, eval ea X.env) :: starEach [eb] X.env := by rfl) (hpl : (backTo zpos (starEach [eb] X.env)).any (·.1) = false := by rfl)
    (hfs : ∀ x, foldedSetIterable (.Call (.Name "zip" zp) [ea, eb] [] zpos) X.env x = pure x := by intro _; rfl) :
    SSs X C (st1 :: st2 :: .For (.Tuple elts kk tpos) (.Call (.Name "zip" zp) [ea, eb] [] zpos) body [] pos :: rest) (tSeq t1 (tSeq tTb2 (tSeq (tTb3 X.K ta) t4))) (sSeq s1 (sSeq s_tb s4)) :=
  sss_two h1 p2 (ps_for hp hc (pi_zipM hg hm ha.p hs hpl) sg.p pb hfs) (ok_tb (fun Hk H σ ρ a b c r e0 e1 Q q => ha.o.2 Hk H σ ρ _ r (hfa ρ a b c e0 e1) Q q) sg.o) h4
theorem d_table_for (W : Wf K mg) : DefOk P w K mg base (CF K) 2 "table_for" 1 F_table_for := by
  obtain ⟨fd, F⟩ := W.d 22 rfl
  have nd := sc_table_for.nd
  exact defok F (fn_spf (k := 1) F sc_table_for (by decide) fun cdv A outer sh H hr => ⟨_, sss_tb (ss_set 1 nd (se_ixUK (K := K) W.un (se_lenK (K := K) W.b_len (SE.sq (se_var 0)))))
    (ps_setLc rfl nd rfl rfl (by rfl) (own := [("row", 3)]) (pi_range1 (by rfl) W.b_range (pa_cons (pe_var (i := 1) (by rfl) (by first | exact Or.inl rfl | exact Or.inr (Or.inl rfl) | exact Or.inr (Or.inr rfl))) pa_nil)) (blkOk_by (own := [("row", 3)]) (by kernel_rfl))
      (fun _ _ _ _ _ => pg_name nd (by rfl) (by first | exact .inl rfl | exact .inr rfl)) (fun _ _ _ _ _ => pts_nil)
      (fun _ _ _ _ _ => pe_op op_rep (pe_lst (pa_cons pe_int pa_nil)) (pe_var (i := 1) (by rfl) (by first | exact Or.inl rfl | exact Or.inr (Or.inl rfl) | exact Or.inr (Or.inr rfl)))))
    PassesOwn.never rfl W.b_zip
    (sa_cons (se_call (d_pairs_of W) (hr.mono (by decide)) (sa_cons (se_var 1) sa_nil)) (sa_cons (se_var 0) sa_nil)) fa_tb
    (sg_tup rfl (sgs_cons (sg_tup rfl (sgs_cons (sg_name 3 nd) (sgs_cons (sg_name 4 nd) sgs_nil))) (sgs_cons (sg_name 5 nd) sgs_nil)))
    (pss_cons (ps_asg (pe_op op_add (pe_ix ix_seq (pe_ix ix_seq (pe_var (i := 2) (by rfl) (by first | exact Or.inl rfl | exact Or.inr (Or.inl rfl) | exact Or.inr (Or.inr rfl))) (pe_var (i := 3) (by rfl) (by first | exact Or.inl rfl | exact Or.inr (Or.inl rfl) | exact Or.inr (Or.inr rfl))) (fun _ _ => rfl)) (pe_var (i := 4) (by rfl) (by first | exact Or.inl rfl | exact Or.inr (Or.inl rfl) | exact Or.inr (Or.inr rfl))) (fun _ _ => rfl)) (pe_var (i := 5) (by rfl) (by first | exact Or.inl rfl | exact Or.inr (Or.inl rfl) | exact Or.inr (Or.inr rfl)))) (pg_sub (pe_ix ix_seq (pe_var (i := 2) (by rfl) (by first | exact Or.inl rfl | exact Or.inr (Or.inl rfl) | exact Or.inr (Or.inr rfl))) (pe_var (i := 3) (by rfl) (by first | exact Or.inl rfl | exact Or.inr (Or.inl rfl) | exact Or.inr (Or.inr rfl))) (fun _ _ => rfl)) (pe_var (i := 4) (by rfl) (by first | exact Or.inl rfl | exact Or.inr (Or.inl rfl) | exact Or.inr (Or.inr rfl))) set_list (by intro _; rfl)) rfl rfl rfl)
      (pss_one (ps_asg (pe_op op_add (pe_ix ix_seq (pe_ix ix_seq (pe_var (i := 2) (by rfl) (by first | exact Or.inl rfl | exact Or.inr (Or.inl rfl) | exact Or.inr (Or.inr rfl))) (pe_var (i := 4) (by rfl) (by first | exact Or.inl rfl | exact Or.inr (Or.inl rfl) | exact Or.inr (Or.inr rfl))) (fun _ _ => rfl)) (pe_var (i := 3) (by rfl) (by first | exact Or.inl rfl | exact Or.inr (Or.inl rfl) | exact Or.inr (Or.inr rfl))) (fun _ _ => rfl)) (pe_var (i := 5) (by rfl) (by first | exact Or.inl rfl | exact Or.inr (Or.inl rfl) | exact Or.inr (Or.inr rfl)))) (pg_sub (pe_ix ix_seq (pe_var (i := 2) (by rfl) (by first | exact Or.inl rfl | exact Or.inr (Or.inl rfl) | exact Or.inr (Or.inr rfl))) (pe_var (i := 4) (by rfl) (by first | exact Or.inl rfl | exact Or.inr (Or.inl rfl) | exact Or.inr (Or.inr rfl))) (fun _ _ => rfl)) (pe_var (i := 3) (by rfl) (by first | exact Or.inl rfl | exact Or.inr (Or.inl rfl) | exact Or.inr (Or.inr rfl))) set_list (by intro _; rfl)) rfl rfl rfl)))
    (ss_one (ss_ret (se_tupofK (K := K) W.b_tuple (SW.sq (SL.sw (sl_lc (own := [("row", 3)]) rfl nd (blkOk_by (own := [("row", 3)]) (by kernel_rfl)) (by decide) (SI.w (si_seqK (K := K) (se_var 2))) (fun _ _ _ _ _ => (sg_name 3 nd)) (fun _ _ _ _ _ => sts_nil) (fun _ _ _ _ _ => (se_tupofK (K := K) W.b_tuple (SE.sq (se_var 3))))))))))⟩) (W.g 22 rfl) (F.bindsN fun _ _ _ _ _ _ us hl => match us, hl with | [_], _ => rfl)
end
end L3
set_option maxHeartbeats 4000000
namespace L3
open PySem L2 RZ
/-! ### str(int), ' '.join, self.held[k] -/
def dStr : List Dat → Option Dat
  | [.int i] => if i.natAbs.log2 < 1920 then some (.str (toString i)) else none
  | _ => none
def strsOf : List Dat → Option (List Str)
  | [] => some []
  | .str s :: r => (strsOf r).bind fun ss => some (s :: ss)
  | _ => none
def dJoin (a : Str) (ds : List Dat) : Option Dat := (strsOf ds).bind fun ys => if (ys.map (·.length)).sum + ys.length * a.length ≤ 16777216 then some (.str (Txt.join a ys)) else none
theorem strsOf_map : ∀ {ds : List Dat} {ys : List Str}, strsOf ds = some ys → ds = ys.map Dat.str
  | [], ys, h => by cases h; rfl
  | d :: ds, ys, h => by
    cases d <;> simp only [strsOf, reduceCtorEq] at h
    obtain ⟨ss, e1, e⟩ := Option.bind_eq_some_iff.mp h
    cases e
    rw [strsOf_map e1]; rfl
def dHeld0 : Dat → Option Dat
  | .frm a b c => some (.tup [.int a, .int b, .int c])
  | _ => none
def dHeld1 : Dat → Option Dat
  | .frm a b c => some (.tup [.tup [.int (2 * a), .int b], .tup [.int b, .int (2 * c)]])
  | _ => none
section
variable {C : Addr} {X : Cx} {K : PySem.W.Frag} {e : Expr} {pos p apos p2 : Pos} {f : En → Option Dat} {la : En → Option (List Dat)} {ue : TE} {j : Nat}
theorem se_strof (hm : X.mg "str" = none) (ha : SE X C e ue f) (hg : Gl X "str" := by rfl) (he : starEach [e] X.env = [(false, eval e X.env)] := by rfl) :
    SE X C (.Call (.Name "str" p) [e] [] pos) (tCB (fun xs H Q => ∃ i, xs = [.int i] ∧ i.natAbs.log2 < 1920 ∧ Q (.str (toString i)) H) (tCons ue tNil)) (fC dStr (fCons f fNil)) :=
  se_callT call_str_int (fun Hk H xs ds d hl r e Q q => by
    unfold dStr at e
    split at e
    · rename_i i
      split at e
      · rename_i hz
        cases e
        obtain ⟨x, y, rfl, h1, h2⟩ := r.cons
        rw [h1.int, h2.nil]
        exact ⟨i, rfl, hz, q _ Hk H (Nx.refl hl) rp_str⟩
      · cases e
    · cases e) hm (sa_cons ha sa_nil he) (by decide +kernel) hg (by decide) (by decide) he rfl
theorem se_joinK {sep : Str} (he : SL X C e ue la) (hs : starEach [e] X.env = [(false, eval e X.env)] := by rfl) (hbase : attributeBase (.Constant (.str sep) j p) "join" X.env (eval (.Constant (.str sep) j p) X.env) = eval (.Constant (.str sep) j p) X.env := by rfl) (hline : (apos.endLine == pos.line) = true := by rfl) (hK : X.K = K := by rfl) :
    SE X C (.Call (.Attribute (.Constant (.str sep) j p) "join" apos) [e] [] pos) (tM1 (fun x xs H Q => ∃ a p, ∃ ys : List Str, x = .str a ∧ xs = [.ref p] ∧ (SqL K H p (ys.map V.str) ∨ SqT K H p (ys.map V.str)) ∧
      (ys.map (·.length)).sum + ys.length * a.length ≤ 16777216 ∧ Q (.str (Txt.join a ys)) H) (tC (.str sep)) ue) (fC (dJoin sep) la) := by
  subst hK
  refine ⟨pe_join pe_str he.p hs hbase hline, fun Hk H σ ρ d r e Q q => ?_⟩
  unfold fC at e
  obtain ⟨ds, e1, e⟩ := Option.bind_eq_some_iff.mp e
  unfold dJoin at e
  obtain ⟨ys, e2, e⟩ := Option.bind_eq_some_iff.mp e
  split at e
  · rename_i hz
    cases e
    refine ⟨⟨sep, rfl⟩, he.o Hk H σ ρ ds r e1 _ fun p xs Hk1 H1 n1 h0 h1 h2 h3 => ?_⟩
    have := strsOf_map e2
    subst this
    have := h3.strs
    subst this
    exact ⟨sep, p, ys, rfl, rfl, .inl (SqL.of h2), hz, q _ Hk1 H1 n1 rp_str⟩
  · cases e
theorem se_held0K (cl : Cls K C) (n1 : NoAttr K C "held") (ha : SE X C e ue f) (hb : attributeBase e "held" X.env (eval e X.env) = eval e X.env := by rfl) (hK : X.K = K := by rfl) :
    SE X C (.Subscript (.Attribute e "held" p) (.Constant (.int 0) j p2) pos) (tOp (rIx K) (tFld K ue "held") (tC (.int 0))) (f1 dHeld0 f) := by
  subst hK
  refine ⟨pe_ix ix_seq (pe_fld ha.p hb) pe_int (fun _ _ => rfl), fun Hk H σ ρ d r e Q q => ?_⟩
  unfold f1 at e
  obtain ⟨y, e1, e⟩ := Option.bind_eq_some_iff.mp e
  cases y <;> simp only [dHeld0, reduceCtorEq] at e
  cases e
  refine ha.o Hk H σ ρ _ r e1 _ fun v Hk1 H1 n1' r1 => ?_
  obtain ⟨z, rfl, dx, t, q', r', r1', r2', m, sg, kd, w, h1, h2, h3, h4, h5, h6⟩ := r1.frm
  refine ⟨z, C, dx, _, .ref t, rfl, n1'.kh _ _ h1, cl, n1, rfl, Or.inr (Or.inl ⟨t, _, 0, .ref q', rfl, rfl, SqT.of (n1'.kh _ _ h2), rfl, q _ Hk1 H1 n1' (rp_tup h3 (rpl_cons rp_int (rpl_cons rp_int (rpl_cons rp_int rpl_nil))))⟩)⟩
theorem se_held1K (cl : Cls K C) (n1 : NoAttr K C "held") (ha : SE X C e ue f) (hb : attributeBase e "held" X.env (eval e X.env) = eval e X.env := by rfl) (hK : X.K = K := by rfl) :
    SE X C (.Subscript (.Attribute e "held" p) (.Constant (.int 1) j p2) pos) (tOp (rIx K) (tFld K ue "held") (tC (.int 1))) (f1 dHeld1 f) := by
  subst hK
  refine ⟨pe_ix ix_seq (pe_fld ha.p hb) pe_int (fun _ _ => rfl), fun Hk H σ ρ d r e Q q => ?_⟩
  unfold f1 at e
  obtain ⟨y, e1, e⟩ := Option.bind_eq_some_iff.mp e
  cases y <;> simp only [dHeld1, reduceCtorEq] at e
  cases e
  refine ha.o Hk H σ ρ _ r e1 _ fun v Hk1 H1 n1' r1 => ?_
  obtain ⟨z, rfl, dx, t, q', r', r1', r2', m, sg, kd, w, h1, h2, h3, h4, h5, h6⟩ := r1.frm
  refine ⟨z, C, dx, _, .ref t, rfl, n1'.kh _ _ h1, cl, n1, rfl, Or.inr (Or.inl ⟨t, _, 1, .ref r', rfl, rfl, SqT.of (n1'.kh _ _ h2), rfl, q _ Hk1 H1 n1' (rp_tup h4 (rpl_cons (rp_tup h5 (rpl_cons rp_int (rpl_cons rp_int rpl_nil))) (rpl_cons (rp_tup h6 (rpl_cons rp_int (rpl_cons rp_int rpl_nil))) rpl_nil)))⟩)⟩
end
/-! ### Form.__init__ -/
def mkFrm : Dat → Dat → Option Dat
  | .tup [.tup [.int a, .int b, .int c], .tup [.tup [.int a2, .int b1], .tup [.int b2, .int c2]], _, _, _], .str _ => if a2 = 2 * a ∧ b1 = b ∧ b2 = b ∧ c2 = 2 * c then some (.frm a b c) else none
  | _, _ => none
def sInit (f1 f2 f3 f4 f5 : En → Option Dat) (d0 : Dat) : Option Dat :=
  (f1 [.no, .fz d0, .no, .no, .no]).bind fun _ => (f2 [.no, .fz d0, .no, .no, .no]).bind fun d2 => (f3 [.no, .fz d0, .fz d2, .no, .no]).bind fun d3 =>
    (f4 [.no, .fz d0, .fz d2, .fz d3, .no]).bind fun d4 => (f5 [.no, .fz d0, .fz d2, .fz d3, .no]).bind fun d5 => mkFrm d4 d5
theorem Rel.hp {C : Addr} {Hk H H' : Hp} {σ : L2.St} {ρ : En} (r : Rel C Hk H σ ρ) (no : ∀ (i : Nat) ds, ρ[i]? ≠ some (.ow ds)) (h : Le Hk H') : Rel C Hk H' σ ρ :=
  ⟨h, r.len, r.fz, fun i ds e => absurd e (no i ds), fun i j l a b e => absurd e (no i a)⟩
theorem ok_init {C : Addr} {K : PySem.W.Frag} {u1 u2 u3 u4 u5 : TE} {f1 f2 f3 f4 f5 : En → Option Dat} (o1 : OkE C u1 f1) (o2 : OkE C u2 f2) (o3 : OkE C u3 f3) (o4 : OkE C u4 f4) (o5 : OkE C u5 f5) (cl : Cls K C) (na1 : NoAttr K C "held") (na2 : NoAttr K C "words")
    {x dx : Addr} {v : V} {Hk H0 : Hp} {d0 d : Dat} {E : Ends} (hx : H0 x = none) (hdx : H0 dx = none) (ne : dx ≠ x) (hl : Le Hk H0) (rv : Rp C Hk d0 v) (e : sInit f1 f2 f3 f4 f5 d0 = some d)
    (q : ∀ σ' Hk' H', Nx Hk H0 Hk' H' → Rp C Hk' d (.ref x) → E.nx σ' H') :
    (tSeq (tDrop u1) (tSeq (tAsg u2 (gName 2)) (tSeq (tAsg u3 (gName 3)) (tSeq (sFld K (tVar 0) u4 "held") (sFld K (tVar 0) u5 "words"))))) E [some (.ref x), some v, none, none, none] (upd (upd H0 dx (.own x)) x (.ins C dx [])) := by
  unfold sInit at e
  obtain ⟨d1, e1, ea⟩ := Option.bind_eq_some_iff.mp e
  obtain ⟨d2, e2, eb⟩ := Option.bind_eq_some_iff.mp ea
  obtain ⟨d3, e3, ec⟩ := Option.bind_eq_some_iff.mp eb
  obtain ⟨d4, e4, ed⟩ := Option.bind_eq_some_iff.mp ec
  obtain ⟨d5, e5, ee⟩ := Option.bind_eq_some_iff.mp ed
  clear e ea eb ec ed
  have l0 : Le H0 (upd (upd H0 dx (.own x)) x (.ins C dx [])) := (Le.new hdx).trans (Le.new (by rw [upd_ne (Ne.symm ne)]; exact hx))
  have R0 : Rel C Hk (upd (upd H0 dx (.own x)) x (.ins C dx [])) [some (.ref x), some v, none, none, none] [.no, .fz d0, .no, .no, .no] :=
    { kh := hl.trans l0, len := rfl,
      fz := fun i d hi => by
        match i, hi with
        | 0, hi => cases hi
        | 1, hi => cases hi; exact ⟨v, rfl, rv⟩
        | 2, hi => cases hi
        | 3, hi => cases hi
        | 4, hi => cases hi
        | i + 5, hi => simp at hi,
      ow := fun i ds hi => by
        match i, hi with
        | 0, hi => cases hi
        | 1, hi => cases hi
        | 2, hi => cases hi
        | 3, hi => cases hi
        | 4, hi => cases hi
        | i + 5, hi => simp at hi,
      ds := fun i j l a b hi => by
        match i, hi with
        | 0, hi => cases hi
        | 1, hi => cases hi
        | 2, hi => cases hi
        | 3, hi => cases hi
        | 4, hi => cases hi
        | i + 5, hi => simp at hi }
  have hx1 : (upd (upd H0 dx (.own x)) x (.ins C dx [])) x = some (.ins C dx []) := upd_same
  have kx : Hk x = none := hl.free hx
  refine o1 Hk _ _ _ d1 R0 e1 _ fun v1 Hk1 H1 n1 r1 => ?_
  refine o2 Hk1 H1 _ _ d2 (R0.nx n1) e2 _ fun v2 Hk2 H2 n2 r2 => ?_
  have R2 : Rel C Hk2 H2 [some (.ref x), some v, some v2, none, none] [.no, .fz d0, .fz d2, .no, .no] := ((R0.nx n1).nx n2).setF (i := 2) r2
  refine o3 Hk2 H2 [some (.ref x), some v, some v2, none, none] _ d3 R2 e3 _ fun v3 Hk3 H3 n3 r3 => ?_
  have R3 : Rel C Hk3 H3 [some (.ref x), some v, some v2, some v3, none] [.no, .fz d0, .fz d2, .fz d3, .no] := (R2.nx n3).setF (i := 3) r3
  refine o4 Hk3 H3 [some (.ref x), some v, some v2, some v3, none] _ d4 R3 e4 _ fun v4 Hk4 H4 n4 r4 => ?_
  have n := ((n1.trans n2).trans n3).trans n4
  have x4 : H4 x = some (.ins C dx []) := n.hh _ _ hx1
  have k4 : Hk4 x = none := n.sp x kx (by rw [hx1]; intro z; cases z)
  refine ⟨.ref x, rfl, x, C, dx, [], rfl, x4, cl, na1, by decide, ?_⟩
  have R4 : Rel C Hk4 (upd H4 x (.ins C dx [("held", v4)])) [some (.ref x), some v, some v2, some v3, none] [.no, .fz d0, .fz d2, .fz d3, .no] := (R3.nx n4).hp (fun i ds hi => by
      match i, hi with
      | 0, hi => cases hi
      | 1, hi => cases hi
      | 2, hi => cases hi
      | 3, hi => cases hi
      | 4, hi => cases hi
      | i + 5, hi => simp at hi) (le_out n4.kh k4)
  refine o5 Hk4 _ [some (.ref x), some v, some v2, some v3, none] _ d5 R4 e5 _ fun v5 Hk5 H5 n5 r5 => ?_
  have x5 : H5 x = some (.ins C dx [("held", v4)]) := n5.hh _ _ upd_same
  have k5 : Hk5 x = none := n5.sp x k4 (by rw [upd_same]; intro z; cases z)
  refine ⟨.ref x, rfl, x, C, dx, [("held", v4)], rfl, x5, cl, na2, (show 1 < 1000 by decide), ?_⟩
  unfold mkFrm at ee
  split at ee
  · rename_i a b c a2 b1 b2 c2 m sg kd w
    split at ee
    · rename_i hc
      obtain ⟨rfl, rfl, rfl, rfl⟩ := hc
      cases ee
      rw [r5.str]
      obtain ⟨t, xs, rfl, t1, t2⟩ := r4.tup
      obtain ⟨y1, ys, rfl, p1, t2⟩ := t2.cons
      obtain ⟨y2, ys, rfl, p2, t2⟩ := t2.cons
      obtain ⟨y3, ys, rfl, p3, t2⟩ := t2.cons
      obtain ⟨y4, ys, rfl, p4, t2⟩ := t2.cons
      obtain ⟨y5, ys, rfl, p5, t2⟩ := t2.cons
      rw [t2.nil] at t1
      obtain ⟨q1, zs, rfl, q2, q3⟩ := p1.tup
      obtain ⟨z1, zs, rfl, w1, q3⟩ := q3.cons
      obtain ⟨z2, zs, rfl, w2, q3⟩ := q3.cons
      obtain ⟨z3, zs, rfl, w3, q3⟩ := q3.cons
      rw [q3.nil, w1.int, w2.int, w3.int] at q2
      obtain ⟨r1', us, rfl, r2', r3'⟩ := p2.tup
      obtain ⟨u1', us, rfl, s1, r3'⟩ := r3'.cons
      obtain ⟨u2', us, rfl, s2, r3'⟩ := r3'.cons
      rw [r3'.nil] at r2'
      obtain ⟨g1, gs, rfl, g2, g3⟩ := s1.tup
      obtain ⟨i1, gs, rfl, j1, g3⟩ := g3.cons
      obtain ⟨i2, gs, rfl, j2, g3⟩ := g3.cons
      rw [g3.nil, j1.int, j2.int] at g2
      obtain ⟨h1, hs, rfl, h2, h3⟩ := s2.tup
      obtain ⟨l1, hs, rfl, m1, h3⟩ := h3.cons
      obtain ⟨l2, hs, rfl, m2, h3⟩ := h3.cons
      rw [h3.nil, m1.int, m2.int] at h2
      have up : ∀ {l : Addr} {o : HO}, Hk4 l = some o → (upd Hk5 x (.ins C dx [("held", .ref t), ("words", .str w)])) l = some o := fun {l o} h => by
        have z : l ≠ x := fun z => by subst z; rw [k4] at h; cases h
        rw [upd_ne z]; exact n5.kk _ _ h
      refine q _ (upd Hk5 x (.ins C dx [("held", .ref t), ("words", .str w)])) _ ⟨fun l o h => ?_, fun l o h => ?_, upd_le n5.kh, fun l h1 h2 => ?_⟩ (rp_frm ⟨dx, t, q1, r1', g1, h1, y3, y4, y5, w, upd_same, up t1, up q2, up r2', up g2, up h2⟩)
      · exact up (n.kk _ _ h)
      · have z : l ≠ x := fun z => by subst z; rw [hx] at h; cases h
        show upd H5 x (.ins C dx [("held", .ref t), ("words", .str w)]) l = some o
        rw [upd_ne z]
        refine n5.hh _ _ ?_
        rw [upd_ne z]
        exact n.hh _ _ (l0 _ _ h)
      · have z : l ≠ x := fun z => h2 (by rw [z]; exact hx)
        rw [upd_ne z]
        have a1 : (upd (upd H0 dx (.own x)) x (.ins C dx [])) l ≠ none := fun z => h2 (l0.free z)
        refine n5.sp l (n.sp l h1 a1) ?_
        rw [upd_ne z]
        exact fun z => a1 (n.hh.free z)
    · cases ee
  · cases ee
theorem init_all {Y : Cx} {C : Addr} {K : PySem.W.Frag} {e1 e2 e3 e4 e5 : Expr} {u1 u2 u3 u4 u5 : TE} {f1 f2 f3 f4 f5 : En → Option Dat} {q1 q2 q3 q4 q5 q6 q7 q8 q9 q10 q11 : Pos} {x dx : Addr} {v : V} {Hk H0 : Hp} {d0 d : Dat} {E : Ends}
    (hN : Y.nox.N.Nodup) (cl : Cls K C) (na1 : NoAttr K C "held") (na2 : NoAttr K C "words") (hx : H0 x = none) (hdx : H0 dx = none) (ne : dx ≠ x) (hl : Le Hk H0) (rv : Rp C Hk d0 v) (e : sInit f1 f2 f3 f4 f5 d0 = some d)
    (q : ∀ σ' Hk' H', Nx Hk H0 Hk' H' → Rp C Hk' d (.ref x) → E.nx σ' H') (hK : Y.nox.K = K)
    (h1 : SE Y.nox C e1 u1 f1) (h2 : SE Y.nox C e2 u2 f2) (h3 : SE Y.nox C e3 u3 f3) (h4 : SE Y.nox C e4 u4 f4) (h5 : SE Y.nox C e5 u5 f5)
    (hi2 : Y.nox.N[2]? = some ("rows" : Str) := by rfl) (hi3 : Y.nox.N[3]? = some ("signature" : Str) := by rfl) (hl2 : Y.nox.env.scope.names.lookup ("rows" : Str) = some NameKind.local := by rfl) (hl3 : Y.nox.env.scope.names.lookup ("signature" : Str) = some NameKind.local := by rfl)
    (s0 : Y.nox.N[0]? = some ("self" : Str) := by rfl) (sv : Vis Y.nox.env.scope ("self" : Str) := by first | exact Or.inl rfl | exact Or.inr (Or.inl rfl) | exact Or.inr (Or.inr rfl))
    (w1 : swapsWith e1 none q1.line Y.nox.env = pure false := by rfl) (w2 : swapsWith e2 (some (.Name "rows" q2)) q3.line Y.nox.env = pure false := by rfl) (w3 : swapsWith e3 (some (.Name "signature" q4)) q5.line Y.nox.env = pure false := by rfl)
    (w4 : swapsWith e4 (some (.Attribute (.Name "self" q6) "held" q7)) q8.line Y.nox.env = pure false := by rfl) (w5 : swapsWith e5 (some (.Attribute (.Name "self" q9) "words" q10)) q11.line Y.nox.env = pure false := by rfl) :
    ∃ t, PSs Y [.Expr e1 q1, .Assign [.Name "rows" q2] e2 q3, .Assign [.Name "signature" q4] e3 q5, .Assign [.Attribute (.Name "self" q6) "held" q7] e4 q8, .Assign [.Attribute (.Name "self" q9) "words" q10] e5 q11] t ∧
      t E [some (.ref x), some v, none, none, none] (upd (upd H0 dx (.own x)) x (.ins C dx [])) := by
  subst hK
  refine ⟨_, PSs.nox (pss_cons (ps_expr h1.p w1) (pss_cons (ps_set hN hi2 (.inl hl2) h2.p w2 (.inr hl2)) (pss_cons (ps_set hN hi3 (.inl hl3) h3.p w3 (.inr hl3))
    (pss_cons (ps_fld (pe_var s0 sv) h4.p w4) (pss_one (ps_fld (pe_var s0 sv) h5.p w5)))))), ?_⟩
  exact ok_init h1.o h2.o h3.o h4.o h5.o cl na1 na2 hx hdx ne hl rv e q
end L3
set_option maxHeartbeats 4000000
namespace L3
open PySem L2 RZ
section
variable {P : Program} {w : World} {K : PySem.W.Frag} {mg : Str → Option Value} {base : Heap}
theorem sc_init : FnScope ["self", "coefficients", "rows", "signature", "own"] ["self", "coefficients"] (defScope (mtd 0)) := ⟨rfl, rfl, rfl, by decide +kernel, rfl, by decide +kernel, by decide +kernel⟩
def i1_Form : En → Option Dat := fC F_check_coefficients (fCons (fV 1) (fNil))
def i2_Form : En → Option Dat := fC F_table_for (fCons (fV 1) (fNil))
def i3_Form : En → Option Dat := fC F_signature_for (fCons (fV 2) (fNil))
def i4_Form : En → Option Dat := fTup (fCons (fV 1) (fCons (fV 2) (fCons (fC F_determinant (fCons (fV 2) (fNil))) (fCons (fV 3) (fCons (fC F_kind_for (fCons (fV 3) (fCons (fC dLen (fSq (fV 2))) (fNil)))) (fNil))))))
def i5_Form : En → Option Dat := fC (dJoin " ") (fLc (fSq (fV 1)) (gN 4) (fYes) (fC dStr (fCons (fV 4) fNil)) [4])
def F_Form : List Dat → Option Dat
  | [d] => sInit i1_Form i2_Form i3_Form i4_Form i5_Form d
  | _ => none
theorem d_Form (W : Wf K mg) : NewOk P w K mg base (CF K) 6 "Form" F_Form := by
  obtain ⟨fd, F⟩ := W.c 0 rfl
  have nd := sc_init.nd
  refine ⟨mtA "__init__" K, fd, ["self", "coefficients"], W.cl.mkf, F.ok sc_init (fun vs H Q E h => ?_) (fun cdv A outer sh H vs Q E hr h => ?_), W.cl.mg, F.bindsN fun _ _ _ _ _ _ us hl => match us, hl with | [_, _], _ => rfl⟩
  · obtain ⟨x, dx, v, H0, rfl, _⟩ := h
    rfl
  · obtain ⟨x, dx, v, H0, rfl, hx, hdx, ne, rfl, Hk, ds, d, hl, r, e, q⟩ := h
    obtain ⟨d0, rfl⟩ : ∃ d0, ds = [d0] := by
      cases ds with
      | nil => cases r.nil
      | cons d0 t =>
        obtain ⟨_, _, z, _, r2⟩ := r.cons
        cases z
        cases t with
        | nil => exact ⟨d0, rfl⟩
        | cons _ _ =>
          obtain ⟨_, _, z, _⟩ := r2.cons
          cases z
    obtain ⟨v', r', z, rv, _⟩ := r.cons
    cases z
    exact init_all nd W.cl.cl W.cl.n1 W.cl.n2 hx hdx ne hl rv e (fun _ Hk' H' n r => q Hk' H' n r) rfl
      (se_call (d_check_coefficients W) (hr.mono (by decide)) (sa_cons (se_var 1) sa_nil))
      (se_call (d_table_for W) (hr.mono (by decide)) (sa_cons (se_var 1) sa_nil))
      (se_call (d_signature_for W) (hr.mono (by decide)) (sa_cons (se_var 2) sa_nil))
      (se_tup (sa_cons (se_var 1) (sa_cons (se_var 2) (sa_cons (se_call (d_determinant W) (hr.mono (by decide)) (sa_cons (se_var 2) sa_nil)) (sa_cons (se_var 3) (sa_cons (se_call (d_kind_for W) (hr.mono (by decide)) (sa_cons (se_var 3) (sa_cons (se_lenK (K := K) W.b_len (SE.sq (se_var 2))) sa_nil))) sa_nil))))))
      (se_joinK (K := K) (sl_lc (own := [("own", 4)]) rfl nd (blkOk_by (own := [("own", 4)]) (by kernel_rfl)) (by decide) (SI.w (si_seqK (K := K) (se_var 1))) (fun _ _ _ _ _ => (sg_name 4 nd)) (fun _ _ _ _ _ => sts_nil) (fun _ _ _ _ _ => (se_strof W.b_str (se_var 4)))))
def s_m_coefficients : En → Option Fl := sRet (f1 dHeld0 (fV 0))
def P_coefficients : List Dat → Option Dat := runF s_m_coefficients 0
theorem sc_m_coefficients : FnScope ["self"] ["self"] (defScope (mtd 2)) := ⟨rfl, rfl, rfl, by decide +kernel, rfl, by decide +kernel, by decide +kernel⟩
theorem p_coefficients (W : Wf K mg) : PropOk P w K mg base (CF K) 1 "coefficients" P_coefficients := by
  obtain ⟨fd, F⟩ := W.c 1 rfl
  have nd := sc_m_coefficients.nd
  exact ⟨mtA "coefficients" K, getA "coefficients" K, fd, ["self"], W.cl.cl, W.cl.p1, (fn_spf (k := 0) F sc_m_coefficients (by decide) fun cdv A outer sh H hr => ⟨_, (ss_one (ss_ret (se_held0K (K := K) W.cl.cl W.cl.n1 (se_var 0))))⟩), (F.bindsN fun _ _ _ _ _ _ us hl => match us, hl with | [_], _ => rfl)⟩
def s_m_unknowns : En → Option Fl := sRet (fC dLen (fSq (f1 dHeld1 (fV 0))))
def P_unknowns : List Dat → Option Dat := runF s_m_unknowns 0
theorem sc_m_unknowns : FnScope ["self"] ["self"] (defScope (mtd 3)) := ⟨rfl, rfl, rfl, by decide +kernel, rfl, by decide +kernel, by decide +kernel⟩
theorem p_unknowns (W : Wf K mg) : PropOk P w K mg base (CF K) 1 "unknowns" P_unknowns := by
  obtain ⟨fd, F⟩ := W.c 2 rfl
  have nd := sc_m_unknowns.nd
  exact ⟨mtA "unknowns" K, getA "unknowns" K, fd, ["self"], W.cl.cl, W.cl.p2, (fn_spf (k := 0) F sc_m_unknowns (by decide) fun cdv A outer sh H hr => ⟨_, (ss_one (ss_ret (se_lenK (K := K) W.b_len (SE.sq (se_held1K (K := K) W.cl.cl W.cl.n1 (se_var 0))))))⟩), (F.bindsN fun _ _ _ _ _ _ us hl => match us, hl with | [_], _ => rfl)⟩
def s_m_content : En → Option Fl := sRet (fC F_common_of (fCons (f1 dHeld0 (fV 0)) (fNil)))
def P_content : List Dat → Option Dat := runF s_m_content 0
theorem sc_m_content : FnScope ["self"] ["self"] (defScope (mtd 8)) := ⟨rfl, rfl, rfl, by decide +kernel, rfl, by decide +kernel, by decide +kernel⟩
theorem p_content (W : Wf K mg) : PropOk P w K mg base (CF K) 3 "content" P_content := by
  obtain ⟨fd, F⟩ := W.c 3 rfl
  have nd := sc_m_content.nd
  exact ⟨mtA "content" K, getA "content" K, fd, ["self"], W.cl.cl, W.cl.p3, (fn_spf (k := 2) F sc_m_content (by decide) fun cdv A outer sh H hr => ⟨_, (ss_one (ss_ret (se_call (d_common_of W) (hr.mono (by decide)) (sa_cons (se_held0K (K := K) W.cl.cl W.cl.n1 (se_var 0)) sa_nil))))⟩), (F.bindsN fun _ _ _ _ _ _ us hl => match us, hl with | [_], _ => rfl)⟩
def s_eqm : En → Option Fl := sSeq (sIf (fNot (fB (f1 dIsForm (fV 1)))) (sRet (fK (.bl false))) (sNext))
  (sRet (f2 dEqD (f1 dHeld0 (fV 0)) (f1 dHeld0 (fV 1))))
def E_eq : List Dat → Option Dat := runF s_eqm 0
theorem sc_eqm : FnScope ["self", "other"] ["self", "other"] (defScope (mtd 16)) := ⟨rfl, rfl, rfl, by decide +kernel, rfl, by decide +kernel, by decide +kernel⟩
theorem E_eq_of {ds : List Dat} {d : Dat} (h : dEqFm ds = some d) : E_eq ds = some d := by
  unfold dEqFm at h
  split at h
  · obtain ⟨a, b, c, a', b', c', rfl, rfl, rfl⟩ := dEqF_inv h
    show some (Dat.bl (PyData.eqv (.tuple [.int a, .int b, .int c]) (.tuple [.int a', .int b', .int c']))) = _
    simp only [PyData.eqv, PyData.eqvAll, Bool.and_true]
    congr 2
    rw [Bool.eq_iff_iff]
    simp
  · cases h
theorem d_eq (W : Wf K mg) : EqOk P w K mg base (CF K) 1 := by
  obtain ⟨fd, F⟩ := W.c 5 rfl
  have nd := sc_eqm.nd
  have Fk := (fn_spf (P := P) (w := w) (mg := mg) (base := base) (C := CF K) (k := 0) F sc_eqm (by decide) fun cdv A outer sh H hr => ⟨_, (ss_cons (ss_if (st_not (st_val (se_isForm W.cl.ic W.b_isinstance W.cl.mg (se_var 1)))) (ss_one (ss_ret se_bl)) ss_nil)
  (ss_one (ss_ret (se_eqDK (K := K) hr.units (se_held0K (K := K) W.cl.cl W.cl.n1 (se_var 0)) (se_held0K (K := K) W.cl.cl W.cl.n1 (se_var 1))))))⟩)
  refine ⟨mtA "__eq__" K, fd, ["self", "other"], FnOk.imp Fk (fun vs H Q E h => ?_), (F.bindsN fun _ _ _ _ _ _ us hl => match us, hl with | [_, _], _ => rfl), W.cl.eq.at_, W.cl.eq.fn, W.cl.ne, W.cl.ob⟩
  obtain ⟨hn, Hk, ds, d, hl, r, e, q⟩ := h
  exact ⟨hn, Hk, ds, d, hl, r, E_eq_of e, q⟩
end
end L3
set_option maxHeartbeats 4000000
namespace L3
open PySem L2 RZ
section
variable {P : Program} {w : World} {K : PySem.W.Frag} {mg : Str → Option Value} {base : Heap}
def s_check_change : En → Option Fl := sSeq (sIf (fOr (fNot (fB (f1 (dIsi .tuple) (fV 1)))) (fB (f2 dNe (fC dLen (fSq (fV 1))) (fProp P_unknowns (fV 0))))) (sNever) (sNext))
  (sSeq (sFor (fEnum (fV 1)) (gT (gsC (gN 2) (gsC (gN 3) (gsN)))) (sIf (fNot (fB (fC F_is_row (fCons (fV 3) (fCons (fProp P_unknowns (fV 0)) (fNil)))))) (sNever) (sNext)))
  (sIf (fB (fNinT (fC F_determinant (fCons (fV 1) (fNil))) (fCons (fK (.int 1)) (fCons (f1 dNeg (fK (.int 1))) (fNil))))) (sNever) (sNext)))
def F_check_change : List Dat → Option Dat := runF s_check_change 2
theorem sc_check_change : FnScope ["form", "value", "index", "row"] ["form", "value"] (defScope (top 57)) := ⟨rfl, rfl, rfl, by decide +kernel, rfl, by decide +kernel, by decide +kernel⟩
theorem d_check_change (W : Wf K mg) : DefOk P w K mg base (CF K) 4 "check_change" 2 F_check_change := by
  obtain ⟨fd, F⟩ := W.d 25 rfl
  have nd := sc_check_change.nd
  exact defok F (fn_spf (k := 3) F sc_check_change (by decide) fun cdv A outer sh H hr => ⟨_, (ss_cons (ss_if (SWt.st (sw_or (st_not (st_val (se_isiK (K := K) W.b_isinstance W.b_tuple (se_var 1) .tuple))) (sw_or1 (st_ne (se_lenK (K := K) W.b_len (SE.sq (se_var 1))) (se_prop (p_unknowns W) (hr.mono (by decide)) (se_var 0)))))) sss_never ss_nil)
  (ss_cons (ss_for PassesOwn.never rfl (si_enumK (K := K) W.b_enumerate (se_var 1)) (sg_tupK (K := K) rfl (sgs_cons (sg_name 2 nd) (sgs_cons (sg_name 3 nd) sgs_nil))) (ss_one (ss_if (st_not (st_val (se_call (d_is_row W) (hr.mono (by decide)) (sa_cons (se_var 3) (sa_cons (se_prop (p_unknowns W) (hr.mono (by decide)) (se_var 0)) sa_nil))))) sss_never ss_nil)))
  (ss_one (ss_if (st_ninTK (K := K) (se_call (d_determinant W) (hr.mono (by decide)) (sa_cons (se_var 1) sa_nil)) (sa_cons se_int (sa_cons (se_neg se_int) sa_nil))) sss_never ss_nil))))⟩) (W.g 25 rfl) (F.bindsN fun _ _ _ _ _ _ us hl => match us, hl with | [_, _], _ => rfl)
def s_form_of : En → Option Fl := sSeq (sSet 1 (fC F_first_beyond (fCons (fV 0) (fCons (fK (.int (1000000000000))) (fNil)))))
  (sSeq (sIf (fB (f1 dNotN (fV 1))) (sNever) (sNext))
  (sRet (fC F_Form (fCons (fC dTup (fSq (fV 0))) fNil))))
def F_form_of : List Dat → Option Dat := runF s_form_of 1
theorem sc_form_of : FnScope ["coefficients", "beyond"] ["coefficients"] (defScope (top 60)) := ⟨rfl, rfl, rfl, by decide +kernel, rfl, by decide +kernel, by decide +kernel⟩
theorem d_form_of (W : Wf K mg) : DefOk P w K mg base (CF K) 8 "form_of" 1 F_form_of := by
  obtain ⟨fd, F⟩ := W.d 28 rfl
  have nd := sc_form_of.nd
  exact defok F (fn_spf (k := 7) F sc_form_of (by decide) fun cdv A outer sh H hr => ⟨_, (ss_cons (ss_set 1 nd (se_call (d_first_beyond W) (hr.mono (by decide)) (sa_cons (se_var 0) (sa_cons (se_gint (W.int_MOST_SIZE)) sa_nil))))
  (ss_cons (ss_if (st_notN (se_var 1)) sss_never ss_nil)
  (ss_one (ss_ret (se_new (d_Form W) (hr.mono (by decide)) (se_tupofK (K := K) W.b_tuple (SE.sq (se_var 0))))))))⟩) (W.g 28 rfl) (F.bindsN fun _ _ _ _ _ _ us hl => match us, hl with | [_], _ => rfl)
def s_m_changed : En → Option Fl := sSeq (sExpr (fC F_check_change (fCons (fV 0) (fCons (fV 1) (fNil)))))
  (sRet (fC F_form_of (fCons (fC F_coefficients_for (fCons (fC F_around (fCons (f1 dHeld1 (fV 0)) (fCons (fV 1) (fNil)))) (fNil))) (fNil))))
def M_changed : List Dat → Option Dat := runF s_m_changed 0
theorem sc_m_changed : FnScope ["self", "change"] ["self", "change"] (defScope (mtd 13)) := ⟨rfl, rfl, rfl, by decide +kernel, rfl, by decide +kernel, by decide +kernel⟩
theorem m_changed (W : Wf K mg) : MethOk P w K mg base (CF K) 9 "changed" M_changed := by
  obtain ⟨fd, F⟩ := W.c 4 rfl
  have nd := sc_m_changed.nd
  exact ⟨mtA "changed" K, fd, ["self", "change"], W.cl.cl, W.cl.ch, (fn_spf (k := 8) F sc_m_changed (by decide) fun cdv A outer sh H hr => ⟨_, (ss_cons (ss_expr (se_call (d_check_change W) (hr.mono (by decide)) (sa_cons (se_var 0) (sa_cons (se_var 1) sa_nil))))
  (ss_one (ss_ret (se_call (d_form_of W) (hr.mono (by decide)) (sa_cons (se_call (d_coefficients_for W) (hr.mono (by decide)) (sa_cons (se_call (d_around W) (hr.mono (by decide)) (sa_cons (se_held1K (K := K) W.cl.cl W.cl.n1 (se_var 0)) (sa_cons (se_var 1) sa_nil))) sa_nil)) sa_nil)))))⟩), (F.bindsN fun _ _ _ _ _ _ us hl => match us, hl with | [_, _], _ => rfl)⟩
def s_check_form : En → Option Fl := sIf (fNot (fB (f1 dIsForm (fV 0)))) (sNever) (sNext)
def F_check_form : List Dat → Option Dat := runF s_check_form 0
theorem sc_check_form : FnScope ["value"] ["value"] (defScope (top 64)) := ⟨rfl, rfl, rfl, by decide +kernel, rfl, by decide +kernel, by decide +kernel⟩
theorem d_check_form (W : Wf K mg) : DefOk P w K mg base (CF K) 1 "check_form" 1 F_check_form := by
  obtain ⟨fd, F⟩ := W.d 31 rfl
  have nd := sc_check_form.nd
  exact defok F (fn_spf (k := 0) F sc_check_form (by decide) fun cdv A outer sh H hr => ⟨_, (ss_one (ss_if (st_not (st_val (se_isForm W.cl.ic W.b_isinstance W.cl.mg (se_var 0)))) sss_never ss_nil))⟩) (W.g 31 rfl) (F.bindsN fun _ _ _ _ _ _ us hl => match us, hl with | [_], _ => rfl)
def s_discriminant_for : En → Option Fl := sSeq (sAsg (fProp P_coefficients (fV 0)) (gT (gsC (gN 1) (gsC (gN 2) (gsC (gN 3) (gsN))))))
  (sRet (f2 dSub (f2 dMul (fV 2) (fV 2)) (f2 dMul (f2 dMul (fK (.int 4)) (fV 1)) (fV 3))))
def F_discriminant_for : List Dat → Option Dat := runF s_discriminant_for 3
theorem sc_discriminant_for : FnScope ["form", "a", "b", "c"] ["form"] (defScope (top 67)) := ⟨rfl, rfl, rfl, by decide +kernel, rfl, by decide +kernel, by decide +kernel⟩
theorem d_discriminant_for (W : Wf K mg) : DefOk P w K mg base (CF K) 3 "discriminant_for" 1 F_discriminant_for := by
  obtain ⟨fd, F⟩ := W.d 33 rfl
  have nd := sc_discriminant_for.nd
  exact defok F (fn_spf (k := 2) F sc_discriminant_for (by decide) fun cdv A outer sh H hr => ⟨_, (ss_cons (ss_asg (se_prop (p_coefficients W) (hr.mono (by decide)) (se_var 0)) (sg_tupK (K := K) rfl (sgs_cons (sg_name 1 nd) (sgs_cons (sg_name 2 nd) (sgs_cons (sg_name 3 nd) sgs_nil)))))
  (ss_one (ss_ret (se_sub (se_mul (se_var 2) (se_var 2)) (se_mul (se_mul se_int (se_var 1)) (se_var 3))))))⟩) (W.g 33 rfl) (F.bindsN fun _ _ _ _ _ _ us hl => match us, hl with | [_], _ => rfl)
def s_is_binary : En → Option Fl := sSeq (sIf (fOr (fB (f2 dNe (fProp P_unknowns (fV 0)) (fK (.int 2)))) (fNot (fB (fC F_is_discriminant (fCons (fC F_discriminant_for (fCons (fV 0) (fNil))) (fNil)))))) (sRet (fK (.bl false))) (sNext))
  (sRet (fOrV (f2 dGt (fC F_discriminant_for (fCons (fV 0) (fNil))) (fK (.int 0))) (f2 dGt (fIxL (fSq (fProp P_coefficients (fV 0))) (fK (.int 0))) (fK (.int 0)))))
def F_is_binary : List Dat → Option Dat := runF s_is_binary 0
theorem sc_is_binary : FnScope ["form"] ["form"] (defScope (top 68)) := ⟨rfl, rfl, rfl, by decide +kernel, rfl, by decide +kernel, by decide +kernel⟩
theorem d_is_binary (W : Wf K mg) : DefOk P w K mg base (CF K) 4 "is_binary" 1 F_is_binary := by
  obtain ⟨fd, F⟩ := W.d 34 rfl
  have nd := sc_is_binary.nd
  exact defok F (fn_spf (k := 3) F sc_is_binary (by decide) fun cdv A outer sh H hr => ⟨_, (ss_cons (ss_if (SWt.st (sw_or (st_ne (se_prop (p_unknowns W) (hr.mono (by decide)) (se_var 0)) se_int) (sw_or1 (st_not (st_val (se_call (d_is_discriminant W) (hr.mono (by decide)) (sa_cons (se_call (d_discriminant_for W) (hr.mono (by decide)) (sa_cons (se_var 0) sa_nil)) sa_nil))))))) (ss_one (ss_ret se_bl)) ss_nil)
  (ss_one (ss_ret (se_or (se_gt (se_call (d_discriminant_for W) (hr.mono (by decide)) (sa_cons (se_var 0) sa_nil)) se_int) (se_one (se_gt (se_ixK (K := K) (SE.sq (se_prop (p_coefficients W) (hr.mono (by decide)) (se_var 0))) se_int) se_int))))))⟩) (W.g 34 rfl) (F.bindsN fun _ _ _ _ _ _ us hl => match us, hl with | [_], _ => rfl)
def s_check_binary : En → Option Fl := sIf (fNot (fB (fC F_is_binary (fCons (fV 0) (fNil))))) (sNever) (sNext)
def F_check_binary : List Dat → Option Dat := runF s_check_binary 0
theorem sc_check_binary : FnScope ["form"] ["form"] (defScope (top 69)) := ⟨rfl, rfl, rfl, by decide +kernel, rfl, by decide +kernel, by decide +kernel⟩
theorem d_check_binary (W : Wf K mg) : DefOk P w K mg base (CF K) 5 "check_binary" 1 F_check_binary := by
  obtain ⟨fd, F⟩ := W.d 35 rfl
  have nd := sc_check_binary.nd
  exact defok F (fn_spf (k := 4) F sc_check_binary (by decide) fun cdv A outer sh H hr => ⟨_, (ss_one (ss_if (st_not (st_val (se_call (d_is_binary W) (hr.mono (by decide)) (sa_cons (se_var 0) sa_nil)))) sss_never ss_nil))⟩) (W.g 35 rfl) (F.bindsN fun _ _ _ _ _ _ us hl => match us, hl with | [_], _ => rfl)
def s_check_primitive : En → Option Fl := sIf (fB (f2 dNe (fProp P_content (fV 0)) (fK (.int 1)))) (sNever) (sNext)
def F_check_primitive : List Dat → Option Dat := runF s_check_primitive 0
theorem sc_check_primitive : FnScope ["form"] ["form"] (defScope (top 70)) := ⟨rfl, rfl, rfl, by decide +kernel, rfl, by decide +kernel, by decide +kernel⟩
theorem d_check_primitive (W : Wf K mg) : DefOk P w K mg base (CF K) 5 "check_primitive" 1 F_check_primitive := by
  obtain ⟨fd, F⟩ := W.d 36 rfl
  have nd := sc_check_primitive.nd
  exact defok F (fn_spf (k := 4) F sc_check_primitive (by decide) fun cdv A outer sh H hr => ⟨_, (ss_one (ss_if (st_ne (se_prop (p_content W) (hr.mono (by decide)) (se_var 0)) se_int) sss_never ss_nil))⟩) (W.g 36 rfl) (F.bindsN fun _ _ _ _ _ _ us hl => match us, hl with | [_], _ => rfl)
def s_is_reduced_form : En → Option Fl := sSeq (sAsg (fProp P_coefficients (fV 0)) (gT (gsC (gN 1) (gsC (gN 2) (gsC (gN 3) (gsN))))))
  (sSeq (sSet 4 (fC F_discriminant_for (fCons (fV 0) (fNil))))
  (sSeq (sIf (fB (f2 dLt (fV 4) (fK (.int 0)))) (sRet (fAndV (fChain3 (f1 dNeg (fV 1)) (fV 2) (fV 1) (fV 3)) (fOrV (f2 dGe (fV 2) (fK (.int 0))) (fAndV (f2 dNe (fV 2) (f1 dNeg (fV 1))) (f2 dNe (fV 1) (fV 3)))))) (sNext))
  (sSeq (sIf (fOr (fB (f2 dLe (fV 2) (fK (.int 0)))) (fB (f2 dGt (f2 dMul (fV 2) (fV 2)) (fV 4)))) (sRet (fK (.bl false))) (sNext))
  (sSeq (sSet 5 (f2 dSub (f2 dMul (fK (.int 2)) (fC dAbs (fCons (fV 1) fNil))) (fV 2)))
  (sRet (fAndV (f2 dGt (f2 dPow (f2 dAdd (f2 dMul (fK (.int 2)) (fC dAbs (fCons (fV 1) fNil))) (fV 2)) (fK (.int 2))) (fV 4)) (fOrV (f2 dLt (fV 5) (fK (.int 0))) (f2 dLt (f2 dMul (fV 5) (fV 5)) (fV 4)))))))))
def F_is_reduced_form : List Dat → Option Dat := runF s_is_reduced_form 5
theorem sc_is_reduced_form : FnScope ["form", "a", "b", "c", "whole", "less"] ["form"] (defScope (top 71)) := ⟨rfl, rfl, rfl, by decide +kernel, rfl, by decide +kernel, by decide +kernel⟩
theorem d_is_reduced_form (W : Wf K mg) : DefOk P w K mg base (CF K) 4 "is_reduced_form" 1 F_is_reduced_form := by
  obtain ⟨fd, F⟩ := W.d 37 rfl
  have nd := sc_is_reduced_form.nd
  exact defok F (fn_spf (k := 3) F sc_is_reduced_form (by decide) fun cdv A outer sh H hr => ⟨_, (ss_cons (ss_asg (se_prop (p_coefficients W) (hr.mono (by decide)) (se_var 0)) (sg_tupK (K := K) rfl (sgs_cons (sg_name 1 nd) (sgs_cons (sg_name 2 nd) (sgs_cons (sg_name 3 nd) sgs_nil)))))
  (ss_cons (ss_set 4 nd (se_call (d_discriminant_for W) (hr.mono (by decide)) (sa_cons (se_var 0) sa_nil)))
  (ss_cons (ss_if (st_lt (se_var 4) se_int) (ss_one (ss_ret (se_and (se_le_le_le (se_neg (se_var 1)) (se_var 2) (se_var 1) (se_var 3)) (se_one (se_or (se_ge (se_var 2) se_int) (se_one (se_and (se_ne (se_var 2) (se_neg (se_var 1))) (se_one (se_ne (se_var 1) (se_var 3)))))))))) ss_nil)
  (ss_cons (ss_if (SWt.st (sw_or (st_le (se_var 2) se_int) (sw_or1 (st_gt (se_mul (se_var 2) (se_var 2)) (se_var 4))))) (ss_one (ss_ret se_bl)) ss_nil)
  (ss_cons (ss_set 5 nd (se_sub (se_mul se_int (se_abs W.b_abs (se_var 1))) (se_var 2)))
  (ss_one (ss_ret (se_and (se_gt (se_pow (se_add (se_mul se_int (se_abs W.b_abs (se_var 1))) (se_var 2)) se_int) (se_var 4)) (se_one (se_or (se_lt (se_var 5) se_int) (se_one (se_lt (se_mul (se_var 5) (se_var 5)) (se_var 4)))))))))))))⟩) (W.g 37 rfl) (F.bindsN fun _ _ _ _ _ _ us hl => match us, hl with | [_], _ => rfl)
def s_stepped : En → Option Fl := sSeq (sAsg (fProp P_coefficients (fV 0)) (gT (gsC (gN 1) (gsC (gN 2) (gsC (gN 3) (gsN))))))
  (sSeq (sPar [4, 5] (bF (fC F_discriminant_for (fCons (fV 0) (fNil))) (bF (fC dAbs (fCons (fV 3) fNil)) (bNil))))
  (sSeq (sSet 6 (fIf (fAnd (fB (f2 dGt (fV 4) (fK (.int 0)))) (fB (f2 dLt (f2 dMul (fV 3) (fV 3)) (fV 4)))) (fC F_root_of (fCons (fV 4) (fNil))) (fV 5)))
  (sSeq (sSet 7 (f2 dSub (fV 6) (f2 dMod (f2 dAdd (fV 6) (fV 2)) (f2 dMul (fK (.int 2)) (fV 5)))))
  (sSeq (sSet 8 (f2 dDiv (f2 dAdd (fV 7) (fV 2)) (f2 dMul (fK (.int 2)) (fV 3))))
  (sRet (fTup (fCons (fC F_Form (fCons (fTup (fCons (fV 3) (fCons (fV 7) (fCons (f2 dAdd (f2 dSub (fV 1) (f2 dMul (fV 2) (fV 8))) (f2 dMul (f2 dMul (fV 3) (fV 8)) (fV 8))) (fNil))))) fNil)) (fCons (fTup (fCons (fTup (fCons (fK (.int 0)) (fCons (f1 dNeg (fK (.int 1))) (fNil)))) (fCons (fTup (fCons (fK (.int 1)) (fCons (fV 8) (fNil)))) (fNil)))) (fNil)))))))))
def F_stepped : List Dat → Option Dat := runF s_stepped 8
theorem sc_stepped : FnScope ["form", "a", "b", "c", "whole", "wide", "most", "e", "k"] ["form"] (defScope (top 72)) := ⟨rfl, rfl, rfl, by decide +kernel, rfl, by decide +kernel, by decide +kernel⟩
theorem d_stepped (W : Wf K mg) : DefOk P w K mg base (CF K) 8 "stepped" 1 F_stepped := by
  obtain ⟨fd, F⟩ := W.d 38 rfl
  have nd := sc_stepped.nd
  exact defok F (fn_spf (k := 7) F sc_stepped (by decide) fun cdv A outer sh H hr => ⟨_, (ss_cons (ss_asg (se_prop (p_coefficients W) (hr.mono (by decide)) (se_var 0)) (sg_tupK (K := K) rfl (sgs_cons (sg_name 1 nd) (sgs_cons (sg_name 2 nd) (sgs_cons (sg_name 3 nd) sgs_nil)))))
  (ss_cons (ss_par2 4 5 rfl nd (sb_f (se_call (d_discriminant_for W) (hr.mono (by decide)) (sa_cons (se_var 0) sa_nil)) (sb_f (se_abs W.b_abs (se_var 3)) sb_nil)))
  (ss_cons (ss_set 6 nd (se_if (SWt.st (sw_and (st_gt (se_var 4) se_int) (sw_and1 (st_lt (se_mul (se_var 3) (se_var 3)) (se_var 4))))) (se_call (d_root_of W) (hr.mono (by decide)) (sa_cons (se_var 4) sa_nil)) (se_var 5)))
  (ss_cons (ss_set 7 nd (se_sub (se_var 6) (se_mod (se_add (se_var 6) (se_var 2)) (se_mul se_int (se_var 5)))))
  (ss_cons (ss_set 8 nd (se_div (se_add (se_var 7) (se_var 2)) (se_mul se_int (se_var 3))))
  (ss_one (ss_ret (se_tup (sa_cons (se_new (d_Form W) (hr.mono (by decide)) (se_tup (sa_cons (se_var 3) (sa_cons (se_var 7) (sa_cons (se_add (se_sub (se_var 1) (se_mul (se_var 2) (se_var 8))) (se_mul (se_mul (se_var 3) (se_var 8)) (se_var 8))) sa_nil))))) (sa_cons (se_tup (sa_cons (se_tup (sa_cons se_int (sa_cons (se_neg se_int) sa_nil))) (sa_cons (se_tup (sa_cons se_int (sa_cons (se_var 8) sa_nil))) sa_nil))) sa_nil))))))))))⟩) (W.g 38 rfl) (F.bindsN fun _ _ _ _ _ _ us hl => match us, hl with | [_], _ => rfl)
def s_reduced_with : En → Option Fl := sSeq (sSet 1 (fC F_unit_table (fCons (fK (.int 2)) (fNil))))
  (sSeq (sWhile (fNot (fB (fC F_is_reduced_form (fCons (fV 0) (fNil))))) (sSeq (sAsg (fC F_stepped (fCons (fV 0) (fNil))) (gT (gsC (gN 0) (gsC (gN 2) (gsN)))))
  (sSet 1 (fC F_joined_tables (fCons (fV 1) (fCons (fV 2) (fNil)))))))
  (sRet (fTup (fCons (fV 0) (fCons (fV 1) (fNil))))))
def F_reduced_with : List Dat → Option Dat := runF s_reduced_with 2
theorem sc_reduced_with : FnScope ["form", "change", "step"] ["form"] (defScope (top 73)) := ⟨rfl, rfl, rfl, by decide +kernel, rfl, by decide +kernel, by decide +kernel⟩
theorem d_reduced_with (W : Wf K mg) : DefOk P w K mg base (CF K) 9 "reduced_with" 1 F_reduced_with := by
  obtain ⟨fd, F⟩ := W.d 39 rfl
  have nd := sc_reduced_with.nd
  exact defok F (fn_spf (k := 8) F sc_reduced_with (by decide) fun cdv A outer sh H hr => ⟨_, (ss_cons (ss_set 1 nd (se_call (d_unit_table W) (hr.mono (by decide)) (sa_cons se_int sa_nil)))
  (ss_cons (ss_while PassesOwn.never (st_not (st_val (se_call (d_is_reduced_form W) (hr.mono (by decide)) (sa_cons (se_var 0) sa_nil)))) (ss_cons (ss_asg (se_call (d_stepped W) (hr.mono (by decide)) (sa_cons (se_var 0) sa_nil)) (sg_tupK (K := K) rfl (sgs_cons (sg_name 0 nd) (sgs_cons (sg_name 2 nd) sgs_nil))))
  (ss_one (ss_set 1 nd (se_call (d_joined_tables W) (hr.mono (by decide)) (sa_cons (se_var 1) (sa_cons (se_var 2) sa_nil)))))))
  (ss_one (ss_ret (se_tup (sa_cons (se_var 0) (sa_cons (se_var 1) sa_nil)))))))⟩) (W.g 39 rfl) (F.bindsN fun _ _ _ _ _ _ us hl => match us, hl with | [_], _ => rfl)
def s_ring_from : En → Option Fl := sSeq (sPar [1, 2] (bL (fCons (fTup (fCons (fV 0) (fCons (fC F_unit_table (fCons (fK (.int 2)) (fNil))) (fNil)))) (fNil)) (bF (fC F_unit_table (fCons (fK (.int 2)) (fNil))) (bNil))))
  (sSeq (sIf (fB (f2 dLt (fC F_discriminant_for (fCons (fV 0) (fNil))) (fK (.int 0)))) (sRetO (fO 1)) (sNext))
  (sSeq (sAsg (fC F_stepped (fCons (fV 0) (fNil))) (gT (gsC (gN 3) (gsC (gN 4) (gsN)))))
  (sSeq (sWhile (fB (f2 dNeF (fV 3) (fV 0))) (sSeq (sSet 2 (fC F_joined_tables (fCons (fV 2) (fCons (fV 4) (fNil)))))
  (sSeq (sApp 1 (fTup (fCons (fV 3) (fCons (fV 2) (fNil)))))
  (sAsg (fC F_stepped (fCons (fV 3) (fNil))) (gT (gsC (gN 3) (gsC (gN 4) (gsN))))))))
  (sRetO (fO 1)))))
def F_ring_from : List Dat → Option Dat := runF s_ring_from 4
theorem sc_ring_from : FnScope ["form", "found", "change", "later", "step"] ["form"] (defScope (top 74)) := ⟨rfl, rfl, rfl, by decide +kernel, rfl, by decide +kernel, by decide +kernel⟩
theorem d_ring_from (W : Wf K mg) : DefOk P w K mg base (CF K) 9 "ring_from" 1 F_ring_from := by
  obtain ⟨fd, F⟩ := W.d 40 rfl
  have nd := sc_ring_from.nd
  exact defok F (fn_spf (k := 8) F sc_ring_from (by decide) fun cdv A outer sh H hr => ⟨_, (ss_cons (ss_par2 1 2 rfl nd (sb_l (sl_lst (sa_cons (se_tup (sa_cons (se_var 0) (sa_cons (se_call (d_unit_table W) (hr.mono (by decide)) (sa_cons se_int sa_nil)) sa_nil))) sa_nil)) (sb_f (se_call (d_unit_table W) (hr.mono (by decide)) (sa_cons se_int sa_nil)) sb_nil)))
  (ss_cons (ss_if (st_lt (se_call (d_discriminant_for W) (hr.mono (by decide)) (sa_cons (se_var 0) sa_nil)) se_int) (ss_one (ss_retO 1)) ss_nil)
  (ss_cons (ss_asg (se_call (d_stepped W) (hr.mono (by decide)) (sa_cons (se_var 0) sa_nil)) (sg_tupK (K := K) rfl (sgs_cons (sg_name 3 nd) (sgs_cons (sg_name 4 nd) sgs_nil))))
  (ss_cons (ss_while PassesOwn.never (st_neF (d_eq W) (hr.mono (by decide)) (se_var 3) (se_var 0)) (ss_cons (ss_set 2 nd (se_call (d_joined_tables W) (hr.mono (by decide)) (sa_cons (se_var 2) (sa_cons (se_var 4) sa_nil))))
  (ss_cons (ss_app 1 (se_tup (sa_cons (se_var 3) (sa_cons (se_var 2) sa_nil))))
  (ss_one (ss_asg (se_call (d_stepped W) (hr.mono (by decide)) (sa_cons (se_var 3) sa_nil)) (sg_tupK (K := K) rfl (sgs_cons (sg_name 3 nd) (sgs_cons (sg_name 4 nd) sgs_nil))))))))
  (ss_one (ss_retO 1))))))⟩) (W.g 40 rfl) (F.bindsN fun _ _ _ _ _ _ us hl => match us, hl with | [_], _ => rfl)
end
end L3
set_option maxHeartbeats 4000000
namespace PySem.W
open PySem PySem.SeqAt PyProof.Rows
section
variable {prog : Program} {w : World} {A : Around} {E : Value → Shared → Prop} {s : Shared}
/-- min of a list of alike data, by its place -/
theorem min_list_at {l : Addr} {vs : Array Value} {x : PyData} {xs : List PyData} {as : List Addr} {Q : Value → Shared → Prop} (hh : A.handled = none) (hl : s.heap.IsList l vs) (hr : ReadsAll s.heap vs.toList (x :: xs) as) (ha : AlikeAll (x :: xs)) (hu : A.units + 1 + PyData.depthAll (x :: xs) < cLine)
    (h : ∀ (i : Nat) v h' tk, vs[i]? = some v → (x :: xs).getD i .none = minD x xs → (∀ b o, s.heap.get? b = some o → h'.get? b = some o) → Q v { s with heap := h', toks := tk }) :
    wpAny (model prog w) A (call (.builtin "min") [.ref l]) Q E s := by
  have hn : vs.size = xs.length + 1 := readsAll_len hr
  refine call_min_walkH (iter_listW (A := A.in1) hh hl fun s₂ e W st hfp hw hk => ?_)
  refine ⟨_, _, _, _, _, _, _, s.heap, _, rfl, W, st, hfp, by omega, hw, hk, cmpIn_lt (A := A.in1) hr ha (by show A.units + 1 + _ < _; exact hu), fun v s' hP m => ?_⟩
  obtain ⟨h', tk, rfl, hk'⟩ := moved_old e rfl m
  have e1 : vs.size - 1 = xs.length := by omega
  have e2 := (argBest_fold dataLt PyData.none x xs xs.length (Nat.le_refl _)).2
  rw [List.take_length] at e2
  exact h _ v h' tk hP (by unfold minD; rw [← e2, e1]) hk'
end
end PySem.W
namespace L3
open PySem L2 RZ
open PySem.W (minD AlikeAll)
theorem units65 {k : Nat} {A : Around} (r : Room k A) : A.units + 65 < cLine := by have := r.un; omega
/-! ### lists of tuples of ints: min, index -/
def llt : List Int → List Int → Bool
  | [], [] => false
  | [], _ :: _ => true
  | _ :: _, [] => false
  | x :: xs, y :: ys => if x = y then llt xs ys else decide (x < y)
def leastL (t : List Int) (ts : List (List Int)) : List Int := ts.foldl (fun a y => if llt y a then y else a) t
def tupI (t : List Int) : Dat := .tup (t.map Dat.int)
def tupsOf : List Dat → Option (List (List Int))
  | [] => some []
  | .tup ds :: r => (intsOf ds).bind fun t => (tupsOf r).bind fun ts => some (t :: ts)
  | _ => none
theorem tupsOf_map : ∀ {ds : List Dat} {ts : List (List Int)}, tupsOf ds = some ts → ds = ts.map tupI
  | [], ts, h => by cases h; rfl
  | d :: ds, ts, h => by
    cases d <;> simp only [tupsOf, reduceCtorEq] at h
    obtain ⟨t, e1, h⟩ := Option.bind_eq_some_iff.mp h
    obtain ⟨us, e2, h⟩ := Option.bind_eq_some_iff.mp h
    cases h
    rw [tupsOf_map e2, intsOf_map e1]; rfl
@[simp] theorem tupsOf_tups : ∀ ts : List (List Int), tupsOf (ts.map tupI) = some ts
  | [] => rfl
  | t :: ts => by
    show (intsOf (t.map Dat.int)).bind (fun t => (tupsOf (ts.map tupI)).bind fun r => some (t :: r)) = _
    rw [intsOf_ints, tupsOf_tups ts]; rfl
def ptup (t : List Int) : PyData := .tuple (t.map PyData.int)
theorem pdL_ints : ∀ t : List Int, pdL (t.map Dat.int) = some (t.map PyData.int)
  | [] => by simp only [List.map_nil, pdL]
  | x :: t => by
    simp only [List.map_cons, pdL, pd]
    rw [pdL_ints t]; rfl
theorem pd_tupI (t : List Int) : pd (tupI t) = some (ptup t) := by
  unfold tupI ptup
  simp only [pd]
  rw [pdL_ints t]; rfl
theorem pdL_tups : ∀ ts : List (List Int), pdL (ts.map tupI) = some (ts.map ptup)
  | [] => by simp only [List.map_nil, pdL]
  | t :: ts => by
    simp only [List.map_cons, pdL]
    rw [pd_tupI t, pdL_tups ts]; rfl
theorem llt_eq : ∀ a b : List Int, PySem.W.listLt a b = llt a b
  | [], [] => rfl
  | [], _ :: _ => rfl
  | _ :: _, [] => rfl
  | x :: xs, y :: ys => by
    unfold PySem.W.listLt llt
    rw [llt_eq xs ys]; rfl
theorem dataLt_tups (a b : List Int) : PySem.W.dataLt (ptup a) (ptup b) = llt a b :=
  ((PySem.W.dataLt_tuple _ _).trans (PySem.W.lexAll_map a b)).trans (llt_eq a b)
theorem minD_tups (t : List Int) (ts : List (List Int)) : minD (ptup t) (ts.map ptup) = ptup (leastL t ts) := by
  unfold minD leastL
  induction ts generalizing t with
  | nil => rfl
  | cons u us ih =>
    rw [List.map_cons, List.foldl_cons, List.foldl_cons, ← ih, dataLt_tups u t]
    cases llt u t <;> rfl
theorem mapint_inj : ∀ {a b : List Int}, a.map PyData.int = b.map PyData.int → a = b
  | [], [], _ => rfl
  | [], _ :: _, h => by cases h
  | _ :: _, [], h => by cases h
  | x :: a, y :: b, h => by
    simp only [List.map_cons, List.cons.injEq, PyData.int.injEq] at h
    rw [h.1, mapint_inj h.2]
theorem ptup_inj {a b : List Int} (h : ptup a = ptup b) : a = b := by
  unfold ptup at h
  exact mapint_inj (PyData.tuple.inj h)
theorem depth_ints : ∀ t : List Int, PyData.depthAll (t.map PyData.int) = 0
  | [] => by simp only [List.map_nil, PyData.depthAll]
  | x :: t => by simp only [List.map_cons, PyData.depthAll, PyData.depth, depth_ints t, Nat.max_self]
theorem depth_tups : ∀ ts : List (List Int), PyData.depthAll (ts.map ptup) ≤ 1
  | [] => by simp only [List.map_nil, PyData.depthAll]; decide
  | t :: ts => by
    have := depth_tups ts
    have h1 : (ptup t).depth ≤ 1 := by
      unfold ptup
      simp only [PyData.depth, depth_ints]
      decide
    simp only [List.map_cons, PyData.depthAll]
    omega
theorem alike_ints : ∀ a b : List Int, PySem.W.alikeAll (a.map PyData.int) (b.map PyData.int) = true
  | [], _ => by simp only [List.map_nil, PySem.W.alikeAll]
  | _ :: _, [] => by simp only [List.map_nil, List.map_cons, PySem.W.alikeAll]
  | x :: a, y :: b => by simp only [List.map_cons, PySem.W.alikeAll, PySem.W.alike, alike_ints a b, Bool.and_self]
theorem alike_tups (ts : List (List Int)) : AlikeAll (ts.map ptup) := by
  refine ⟨fun x hx y hy => ?_, fun x hx => ?_⟩
  · obtain ⟨a, _, rfl⟩ := List.mem_map.mp hx
    obtain ⟨b, _, rfl⟩ := List.mem_map.mp hy
    unfold ptup
    simp only [PySem.W.alike]
    exact alike_ints a b
  · obtain ⟨a, _, rfl⟩ := List.mem_map.mp hx
    unfold ptup
    intro z; cases z
theorem dpAll_len {K : PySem.W.Frag} {H : Hp} : ∀ {ys : List V} {ps : List PyData}, DpAll K H ys ps → ys.length = ps.length
  | _, _, .nil => rfl
  | _, _, .cons _ r => by rw [List.length_cons, List.length_cons, dpAll_len r]
theorem vals_get' {xs : List V} {us : List Value} {i : Nat} {u : Value} (r : Vals xs us) (e : us[i]? = some u) : ∃ x, xs[i]? = some x ∧ RelV x u := by
  have h1 := (List.getElem?_eq_some_iff.mp e).1
  have h2 := r.length
  have hi : i < xs.length := by omega
  obtain ⟨u', e1, r1⟩ := r.get (List.getElem?_eq_getElem hi)
  rw [e] at e1
  cases e1
  exact ⟨_, List.getElem?_eq_getElem hi, r1⟩
def rMinT (K : PySem.W.Frag) : List V → Hp → VK → Prop := fun vs H Q => ∃ (a : Addr) (ys : List V) (t : List Int) (ts : List (List Int)), vs = [V.ref a] ∧ SqL K H a ys ∧ DpAll K H ys ((t :: ts).map ptup) ∧
  ∀ (i : Nat) (y : V), ys[i]? = some y → (t :: ts)[i]? = some (leastL t ts) → Q y H
theorem cr_minT {X : Cx} (hc : X.calm = true) (hu : X.A.units + 64 < cLine) : CallR X (.builtin "min") (rMinT X.K) := by
  intro pins s σ H vs us Q I r h
  obtain ⟨a, ys, t, ts, rfl, hs, hd, q⟩ := h
  obtain ⟨its, rv, hl, _⟩ := I.list hs
  rw [Vals.ref1 r]
  obtain ⟨as, h4⟩ := Dp.readsAll I _ _ its hd rv
  have hdep := depth_tups (t :: ts)
  refine PySem.W.min_list_at (x := ptup t) (xs := ts.map ptup) (I.ok.hd hc) hl.isList (by simpa using h4) (alike_tups (t :: ts)) (by
    have : PyData.depthAll (ptup t :: ts.map ptup) ≤ 1 := hdep
    omega) fun i v h' tk hv hm hk => ?_
  have hv' : its[i]? = some v := by simpa using hv
  obtain ⟨y, hy, ry⟩ := vals_get' rv hv'
  refine ⟨y, H, I.kept hk, ry, q i y hy ?_⟩
  rw [minD_tups] at hm
  have hi : i < (t :: ts).length := by
    have h1 := (List.getElem?_eq_some_iff.mp hv').1
    have h2 := rv.length
    have h3 : ys.length = ((t :: ts).map ptup).length := dpAll_len hd
    rw [List.length_map] at h3
    omega
  have e : ((t :: ts).map ptup)[i]? = some (ptup ((t :: ts)[i])) := by rw [List.getElem?_map, List.getElem?_eq_getElem hi]; rfl
  have e2 : (ptup t :: ts.map ptup).getD i .none = ptup ((t :: ts)[i]) := by
    rw [List.getD_eq_getElem?_getD]
    show ((((t :: ts).map ptup)[i]?).getD .none) = _
    rw [e]; rfl
  rw [e2] at hm
  rw [List.getElem?_eq_getElem hi, ptup_inj hm]
def dMinT (ds : List Dat) : Option Dat := (tupsOf ds).bind fun ts => match ts with
  | [] => none
  | t :: ts => some (tupI (leastL t ts))
def idxL (t : List Int) : List (List Int) → Option Nat
  | [] => none
  | u :: us => if u = t then some 0 else (idxL t us).bind fun j => some (j + 1)
def tupOfI : Dat → Option (List Int)
  | .tup ds => intsOf ds
  | _ => none
theorem tupOfI_map {d : Dat} {t : List Int} (h : tupOfI d = some t) : d = tupI t := by
  cases d <;> simp only [tupOfI, reduceCtorEq] at h
  rw [intsOf_map h]; rfl
def dIndex (ds : List Dat) (x : Dat) : Option Dat := (tupsOf ds).bind fun ts => (tupOfI x).bind fun t => (idxL t ts).bind fun j => some (.int (j : Nat))
def fIndex (a : En → Option (List Dat)) (b : En → Option Dat) : En → Option Dat := fun ρ => (a ρ).bind fun ds => (b ρ).bind fun x => dIndex ds x
theorem idxL_ok {t : List Int} : ∀ {us : List (List Int)} {j : Nat}, idxL t us = some j → us[j]? = some t ∧ ∀ (m : Nat) (u : List Int), m < j → us[m]? = some u → u ≠ t
  | [], _, h => by cases h
  | u :: us, j, h => by
    unfold idxL at h
    split at h
    · rename_i e
      cases h
      exact ⟨by rw [e]; rfl, fun m _ hm => by omega⟩
    · rename_i ne
      obtain ⟨i, e1, h⟩ := Option.bind_eq_some_iff.mp h
      cases h
      obtain ⟨k1, k2⟩ := idxL_ok e1
      refine ⟨by simpa using k1, fun m v hm hv => ?_⟩
      cases m with
      | zero => simp at hv; subst hv; exact ne
      | succ m => exact k2 m v (by omega) (by simpa using hv)
theorem eqv_ints : ∀ a b : List Int, PyData.eqvAll (a.map PyData.int) (b.map PyData.int) = decide (a = b)
  | [], [] => by simp [PyData.eqvAll]
  | [], _ :: _ => by simp [PyData.eqvAll]
  | _ :: _, [] => by simp [PyData.eqvAll]
  | x :: a, y :: b => by
    simp only [List.map_cons, PyData.eqvAll, PyData.eqv, eqv_ints a b]
    rw [Bool.eq_iff_iff]
    simp
theorem eqv_tups (a b : List Int) : PyData.eqv (ptup a) (ptup b) = decide (a = b) := by
  unfold ptup
  simp only [PyData.eqv]
  exact eqv_ints a b
theorem lay_ints : ∀ t : List Int, PyData.canLayAll0 (t.map PyData.int) = true
  | [] => by simp only [List.map_nil, PyData.canLayAll0]
  | x :: t => by simp only [List.map_cons, PyData.canLayAll0, PyData.canLay0, lay_ints t, Bool.and_self]
theorem lay_tups : ∀ ts : List (List Int), PyData.canLayAll0 (ts.map ptup) = true
  | [] => by simp only [List.map_nil, PyData.canLayAll0]
  | t :: ts => by
    have h : PyData.canLay0 (ptup t) = true := by
      unfold ptup
      simp only [PyData.canLay0, lay_ints]
    simp only [List.map_cons, PyData.canLayAll0, h, lay_tups ts, Bool.and_self]
theorem shaped_tup (t : List Int) : SeqAt.shaped (ptup t) = true := by
  unfold SeqAt.shaped ptup
  simp only [PyData.canLay0, lay_ints, PyData.depth, depth_ints]
  decide
theorem shaped_tups (ts : List (List Int)) : SeqAt.shaped (.list (ts.map ptup)) = true := by
  have := depth_tups ts
  unfold SeqAt.shaped
  simp only [PyData.canLay0, lay_tups, PyData.depth, Bool.true_and]
  exact decide_eq_true (by omega)
section
variable {C : Addr} {X : Cx} {K : PySem.W.Frag} {e o : Expr} {pos p apos cpos : Pos} {f : En → Option Dat} {la : En → Option (List Dat)} {ue uo : TE}
theorem se_minTK (hc : X.calm = true) (hm : X.mg "min" = none) (hu : X.A.units + 64 < cLine) (ha : SW X C e ue la) (hg : Gl X "min" := by rfl) (he : starEach [e] X.env = [(false, eval e X.env)] := by rfl) (hK : X.K = K := by rfl) :
    SE X C (.Call (.Name "min" p) [e] [] pos) (tCB (rMinT K) (tCons ue tNil)) (fC dMinT la) := by
  subst hK
  exact se_callBW (cr_minT hc hu) (fun Hk H l xs ds d hl h r e Q q => by
    unfold dMinT at e
    obtain ⟨ts, e1, e⟩ := Option.bind_eq_some_iff.mp e
    cases ts with
    | nil => cases e
    | cons t ts =>
      cases e
      rw [tupsOf_map e1] at r
      refine ⟨l, xs, t, ts, rfl, SqL.of h, pdL_dp hl r (pdL_tups (t :: ts)), fun i y hy hi => ?_⟩
      obtain ⟨x, k1, k2⟩ := r.get (i := i) (d := tupI (leastL t ts)) (by rw [List.getElem?_map, hi]; rfl)
      rw [hy] at k1
      cases k1
      exact q _ Hk H (Nx.refl hl) k2) hm ha (by decide +kernel) hg (by decide) (by decide) he
theorem se_indexK (hu : X.A.units + 65 < cLine) (ho : SW X C o uo la) (ha : SE X C e ue f)
    (hbase : attributeBase o "index" X.env (eval o X.env) = eval o X.env := by rfl)
    (hfew : ((backTo cpos (starEach [e] X.env)).all (fun x => !x.1) && (backToKw cpos (keywordEach [] X.env)).all (fun x => x.1.isSome)
      && decide ([e].length + ([] : List Keyword).length + (if ([] : List Keyword).isEmpty then 0 else 1) < 30)) = true := by rfl)
    (hline : (apos.endLine == cpos.line) = true := by rfl) (hs : starEach [e] X.env = [(false, eval e X.env)] := by rfl) (hK : X.K = K := by rfl) :
    SE X C (.Call (.Attribute o "index" apos) [e] [] cpos) (tBM K "list" (rIndexD K) uo (tCons ue tNil)) (fIndex la f) := by
  subst hK
  refine ⟨pe_bm PySem.F.plainAttrs_list PySem.F.slot_list_index PySem.F.type_list_index (mt_indexD hu) ho.p (pa_cons ha.p pa_nil hs) hbase hfew hline hs rfl, fun Hk H σ ρ d r e Q q => ?_⟩
  unfold fIndex at e
  obtain ⟨ds, e1, e⟩ := Option.bind_eq_some_iff.mp e
  obtain ⟨x, e2, e⟩ := Option.bind_eq_some_iff.mp e
  unfold dIndex at e
  obtain ⟨ts, e3, e⟩ := Option.bind_eq_some_iff.mp e
  obtain ⟨t, e4, e⟩ := Option.bind_eq_some_iff.mp e
  obtain ⟨j, e5, e⟩ := Option.bind_eq_some_iff.mp e
  cases e
  obtain ⟨k1, k2⟩ := idxL_ok e5
  refine ho.o Hk H σ ρ ds r e1 _ fun l xs Hk1 H1 n1 h1 r1 => ?_
  refine ⟨.inl ⟨rfl, xs, SqL.of h1⟩, ha.o Hk1 H1 σ ρ x (r.nx n1) e2 _ fun v Hk2 H2 n2 r2 => ?_⟩
  rw [tupsOf_map e3] at r1
  rw [tupOfI_map e4] at r2
  refine ⟨l, v, ptup t, ts.map ptup, j, ptup t, rfl, rfl, .lst (SqL.of (n2.hh _ _ h1)) (pdL_dp n2.kh (r1.mono n2.kk) (pdL_tups ts)), pd_dp n2.kh r2 (pd_tupI t), shaped_tups ts, shaped_tup t, ?_, ?_, fun m z' hm hz' => ?_, q _ Hk2 H2 (n1.trans n2) rp_int⟩
  · rw [List.getElem?_map, k1]; rfl
  · rw [eqv_tups]; simp
  · rw [List.getElem?_map] at hz'
    cases hu' : ts[m]? with
    | none => rw [hu'] at hz'; cases hz'
    | some u =>
      rw [hu'] at hz'
      cases hz'
      rw [eqv_tups]
      exact decide_eq_false (k2 m u hm hu')
end
end L3
set_option maxHeartbeats 4000000
namespace L3
open PySem L2 RZ
section
variable {P : Program} {w : World} {K : PySem.W.Frag} {mg : Str → Option Value} {base : Heap}
def s_ring_of : En → Option Fl := sSeq (sSet 1 (fLst (fLc (fSq (fC F_ring_from (fCons (fIxL (fSq (fC F_reduced_with (fCons (fV 0) (fNil)))) (fK (.int 0))) (fNil)))) (gT (gsC (gN 2) (gsC (gN 3) (gsN)))) (fYes) (fV 2) [2, 3])))
  (sSeq (sSet 4 (fLst (fLc (fSq (fV 1)) (gN 2) (fYes) (fProp P_coefficients (fV 2)) [2])))
  (sSeq (sSet 5 (fIndex (fUn (fV 4)) (fC dMinT (fUn (fV 4)))))
  (sRet (fLst (fCat (fDrop (fUn (fV 1)) (fV 5)) (fTake (fUn (fV 1)) (fV 5)))))))
def F_ring_of : List Dat → Option Dat := runF s_ring_of 5
theorem sc_ring_of : FnScope ["form", "forms", "one", "change", "rows", "spot"] ["form"] (defScope (top 75)) := ⟨rfl, rfl, rfl, by decide +kernel, rfl, by decide +kernel, by decide +kernel⟩
theorem d_ring_of (W : Wf K mg) : DefOk P w K mg base (CF K) 10 "ring_of" 1 F_ring_of := by
  obtain ⟨fd, F⟩ := W.d 41 rfl
  have nd := sc_ring_of.nd
  exact defok F (fn_spf (k := 9) F sc_ring_of (by decide) fun cdv A outer sh H hr => ⟨_, (ss_cons (ss_lc 1 (by rfl) (own := [("one", 2), ("change", 3)]) rfl nd (blkOk_by (own := [("one", 2), ("change", 3)]) (by kernel_rfl)) (by decide) (SI.w (si_seqK (K := K) (se_call (d_ring_from W) (hr.mono (by decide)) (sa_cons (se_ixK (K := K) (SE.sq (se_call (d_reduced_with W) (hr.mono (by decide)) (sa_cons (se_var 0) sa_nil))) se_int) sa_nil)))) (fun _ _ _ _ _ => (sg_tupK (K := K) rfl (sgs_cons (sg_name 2 nd) (sgs_cons (sg_name 3 nd) sgs_nil)))) (fun _ _ _ _ _ => sts_nil) (fun _ _ _ _ _ => (se_var 2)))
  (ss_cons (ss_lc 4 (by rfl) (own := [("one", 2)]) rfl nd (blkOk_by (own := [("one", 2)]) (by kernel_rfl)) (by decide) (SI.w (si_seqK (K := K) (se_var 1))) (fun _ _ _ _ _ => (sg_name 2 nd)) (fun _ _ _ _ _ => sts_nil) (fun _ _ _ _ _ => (se_prop (p_coefficients W) (hr.mono (by decide)) (se_var 2))))
  (ss_cons (ss_set 5 nd (se_indexK (K := K) (units65 hr) (SE.sw (se_var 4)) (se_minTK (K := K) rfl W.b_min hr.units (SE.sw (se_var 4)))))
  (ss_one (ss_ret (SL.se (sl_cat (SL.sw (sl_dropK (K := K) (SE.sw (se_var 1)) (se_var 5))) (SL.sw (sl_takeK (K := K) (SE.sw (se_var 1)) (se_var 5))))))))))⟩) (W.g 41 rfl) (F.bindsN fun _ _ _ _ _ _ us hl => match us, hl with | [_], _ => rfl)
def s_lead_of : En → Option Fl := sRet (fIxL (fSq (fC F_ring_of (fCons (fV 0) (fNil)))) (fK (.int 0)))
def F_lead_of : List Dat → Option Dat := runF s_lead_of 0
theorem sc_lead_of : FnScope ["form"] ["form"] (defScope (top 76)) := ⟨rfl, rfl, rfl, by decide +kernel, rfl, by decide +kernel, by decide +kernel⟩
theorem d_lead_of (W : Wf K mg) : DefOk P w K mg base (CF K) 11 "lead_of" 1 F_lead_of := by
  obtain ⟨fd, F⟩ := W.d 42 rfl
  have nd := sc_lead_of.nd
  exact defok F (fn_spf (k := 10) F sc_lead_of (by decide) fun cdv A outer sh H hr => ⟨_, (ss_one (ss_ret (se_ixK (K := K) (SE.sq (se_call (d_ring_of W) (hr.mono (by decide)) (sa_cons (se_var 0) sa_nil))) se_int)))⟩) (W.g 42 rfl) (F.bindsN fun _ _ _ _ _ _ us hl => match us, hl with | [_], _ => rfl)
def s_change_to : En → Option Fl := sSeq (sIf (fB (f2 dNe (fC F_discriminant_for (fCons (fV 0) (fNil))) (fC F_discriminant_for (fCons (fV 1) (fNil))))) (sRet (fK .non)) (sNext))
  (sSeq (sAsg (fC F_reduced_with (fCons (fV 0) (fNil))) (gT (gsC (gN 2) (gsC (gN 3) (gsN)))))
  (sSeq (sAsg (fC F_reduced_with (fCons (fV 1) (fNil))) (gT (gsC (gN 4) (gsC (gN 5) (gsN)))))
  (sSeq (sFor (fSq (fC F_ring_from (fCons (fV 2) (fNil)))) (gT (gsC (gN 6) (gsC (gN 7) (gsN)))) (sIf (fB (f2 dEqF (fV 6) (fV 4))) (sRet (fC F_joined_tables (fCons (fC F_joined_tables (fCons (fV 3) (fCons (fV 7) (fNil)))) (fCons (fC F_inverse_of (fCons (fV 5) (fNil))) (fNil))))) (sNext)))
  (sRet (fK .non)))))
def F_change_to : List Dat → Option Dat := runF s_change_to 6
theorem sc_change_to : FnScope ["form", "other", "near", "first", "goal", "last", "one", "change"] ["form", "other"] (defScope (top 77)) := ⟨rfl, rfl, rfl, by decide +kernel, rfl, by decide +kernel, by decide +kernel⟩
theorem d_change_to (W : Wf K mg) : DefOk P w K mg base (CF K) 10 "change_to" 2 F_change_to := by
  obtain ⟨fd, F⟩ := W.d 43 rfl
  have nd := sc_change_to.nd
  exact defok F (fn_spf (k := 9) F sc_change_to (by decide) fun cdv A outer sh H hr => ⟨_, (ss_cons (ss_if (st_ne (se_call (d_discriminant_for W) (hr.mono (by decide)) (sa_cons (se_var 0) sa_nil)) (se_call (d_discriminant_for W) (hr.mono (by decide)) (sa_cons (se_var 1) sa_nil))) (ss_one (ss_ret se_non)) ss_nil)
  (ss_cons (ss_asg (se_call (d_reduced_with W) (hr.mono (by decide)) (sa_cons (se_var 0) sa_nil)) (sg_tupK (K := K) rfl (sgs_cons (sg_name 2 nd) (sgs_cons (sg_name 3 nd) sgs_nil))))
  (ss_cons (ss_asg (se_call (d_reduced_with W) (hr.mono (by decide)) (sa_cons (se_var 1) sa_nil)) (sg_tupK (K := K) rfl (sgs_cons (sg_name 4 nd) (sgs_cons (sg_name 5 nd) sgs_nil))))
  (ss_cons (ss_for PassesOwn.never rfl (si_seqK (K := K) (se_call (d_ring_from W) (hr.mono (by decide)) (sa_cons (se_var 2) sa_nil))) (sg_tupK (K := K) rfl (sgs_cons (sg_name 6 nd) (sgs_cons (sg_name 7 nd) sgs_nil))) (ss_one (ss_if (st_eqF (d_eq W) (hr.mono (by decide)) (se_var 6) (se_var 4)) (ss_one (ss_ret (se_call (d_joined_tables W) (hr.mono (by decide)) (sa_cons (se_call (d_joined_tables W) (hr.mono (by decide)) (sa_cons (se_var 3) (sa_cons (se_var 7) sa_nil))) (sa_cons (se_call (d_inverse_of W) (hr.mono (by decide)) (sa_cons (se_var 5) sa_nil)) sa_nil))))) ss_nil)))
  (ss_one (ss_ret se_non))))))⟩) (W.g 43 rfl) (F.bindsN fun _ _ _ _ _ _ us hl => match us, hl with | [_, _], _ => rfl)
def s_check_discriminant : En → Option Fl := sIf (fNot (fB (fC F_is_discriminant (fCons (fV 0) (fNil))))) (sNever) (sNext)
def F_check_discriminant : List Dat → Option Dat := runF s_check_discriminant 0
theorem sc_check_discriminant : FnScope ["value"] ["value"] (defScope (top 79)) := ⟨rfl, rfl, rfl, by decide +kernel, rfl, by decide +kernel, by decide +kernel⟩
theorem d_check_discriminant (W : Wf K mg) : DefOk P w K mg base (CF K) 4 "check_discriminant" 1 F_check_discriminant := by
  obtain ⟨fd, F⟩ := W.d 44 rfl
  have nd := sc_check_discriminant.nd
  exact defok F (fn_spf (k := 3) F sc_check_discriminant (by decide) fun cdv A outer sh H hr => ⟨_, (ss_one (ss_if (st_not (st_val (se_call (d_is_discriminant W) (hr.mono (by decide)) (sa_cons (se_var 0) sa_nil)))) sss_never ss_nil))⟩) (W.g 44 rfl) (F.bindsN fun _ _ _ _ _ _ us hl => match us, hl with | [_], _ => rfl)
def s_forms_with : En → Option Fl := sSeq (sSetO 2 (fNil))
  (sSeq (sFor (fRng1 (fCons (f2 dMul (fK (.int 2)) (fC dAbs (fCons (fV 1) fNil))) (fNil))) (gN 3) (sIf (fB (f2 dEq (f2 dMod (f2 dSub (f2 dMul (fV 3) (fV 3)) (fV 0)) (f2 dMul (fK (.int 4)) (fV 1))) (fK (.int 0)))) (sSeq (sSet 4 (fC F_Form (fCons (fTup (fCons (fV 1) (fCons (fV 3) (fCons (f2 dDiv (f2 dSub (f2 dMul (fV 3) (fV 3)) (fV 0)) (f2 dMul (fK (.int 4)) (fV 1))) (fNil))))) fNil)))
  (sIf (fAnd (fB (f2 dEq (fProp P_content (fV 4)) (fK (.int 1)))) (fOr (fB (f2 dGt (fV 0) (fK (.int 0)))) (fB (f2 dGt (fV 1) (fK (.int 0)))))) (sApp 2 (fV 4)) (sNext))) (sNext)))
  (sRetO (fO 2)))
def F_forms_with : List Dat → Option Dat := runF s_forms_with 3
theorem sc_forms_with : FnScope ["whole", "number", "found", "b", "form"] ["whole", "number"] (defScope (top 82)) := ⟨rfl, rfl, rfl, by decide +kernel, rfl, by decide +kernel, by decide +kernel⟩
theorem d_forms_with (W : Wf K mg) : DefOk P w K mg base (CF K) 8 "forms_with" 2 F_forms_with := by
  obtain ⟨fd, F⟩ := W.d 47 rfl
  have nd := sc_forms_with.nd
  exact defok F (fn_spf (k := 7) F sc_forms_with (by decide) fun cdv A outer sh H hr => ⟨_, (ss_cons (ss_setO 2 nd (sl_lst sa_nil))
  (ss_cons (ss_for PassesOwn.never rfl (si_rng1 W.b_range (sa_cons (se_mul se_int (se_abs W.b_abs (se_var 1))) sa_nil)) (sg_name 3 nd) (ss_one (ss_if (st_eq (se_mod (se_sub (se_mul (se_var 3) (se_var 3)) (se_var 0)) (se_mul se_int (se_var 1))) se_int) (ss_cons (ss_set 4 nd (se_new (d_Form W) (hr.mono (by decide)) (se_tup (sa_cons (se_var 1) (sa_cons (se_var 3) (sa_cons (se_div (se_sub (se_mul (se_var 3) (se_var 3)) (se_var 0)) (se_mul se_int (se_var 1))) sa_nil))))))
  (ss_one (ss_if (SWt.st (sw_and (st_eq (se_prop (p_content W) (hr.mono (by decide)) (se_var 4)) se_int) (sw_and1 (SWt.st (sw_or (st_gt (se_var 0) se_int) (sw_or1 (st_gt (se_var 1) se_int))))))) (ss_one (ss_app 2 (se_var 4))) ss_nil))) ss_nil)))
  (ss_one (ss_retO 2))))⟩) (W.g 47 rfl) (F.bindsN fun _ _ _ _ _ _ us hl => match us, hl with | [_, _], _ => rfl)
def s_first_pair : En → Option Fl := sSeq (sSet 1 (fC F_root_of (fCons (fV 0) (fNil))))
  (sSeq (sSet 2 (f2 dSub (fV 1) (f2 dMod (f2 dSub (fV 1) (fV 0)) (fK (.int 2)))))
  (sSeq (sPar [3, 4] (bF (fV 2) (bF (fK (.int 2)) (bNil))))
  (sSeq (sPar [5, 6, 7, 8] (bF (fK (.int 1)) (bF (fK (.int 0)) (bF (fK (.int 0)) (bF (fK (.int 1)) (bNil))))))
  (sSeq (sPar [9, 10] (bF (fK (.int 1)) (bF (fK (.bl true)) (bNil))))
  (sSeq (sWhile (fB (fV 10)) (sSeq (sSet 11 (f2 dDiv (f2 dAdd (fV 3) (fV 1)) (fV 4)))
  (sSeq (sPar [5, 6] (bF (f2 dAdd (f2 dMul (fV 11) (fV 5)) (fV 6)) (bF (fV 5) (bNil))))
  (sSeq (sPar [7, 8] (bF (f2 dAdd (f2 dMul (fV 11) (fV 7)) (fV 8)) (bF (fV 7) (bNil))))
  (sSeq (sSet 3 (f2 dSub (f2 dMul (fV 11) (fV 4)) (fV 3)))
  (sSeq (sSet 4 (f2 dDiv (f2 dSub (fV 0) (f2 dMul (fV 3) (fV 3))) (fV 4)))
  (sPar [9, 10] (bF (f1 dNeg (fV 9)) (bF (f2 dNe (fV 4) (fK (.int 2))) (bNil))))))))))
  (sRet (fTup (fCons (f2 dSub (f2 dMul (fK (.int 2)) (fV 5)) (f2 dMul (fV 2) (fV 7))) (fCons (fV 7) (fCons (fV 9) (fNil)))))))))))
def F_first_pair : List Dat → Option Dat := runF s_first_pair 11
theorem sc_first_pair : FnScope ["whole", "near", "lead", "p", "q", "one", "before", "two", "ahead", "sign", "is_open", "step"] ["whole"] (defScope (top 86)) := ⟨rfl, rfl, rfl, by decide +kernel, rfl, by decide +kernel, by decide +kernel⟩
theorem d_first_pair (W : Wf K mg) : DefOk P w K mg base (CF K) 2 "first_pair" 1 F_first_pair := by
  obtain ⟨fd, F⟩ := W.d 50 rfl
  have nd := sc_first_pair.nd
  exact defok F (fn_spf (k := 1) F sc_first_pair (by decide) fun cdv A outer sh H hr => ⟨_, (ss_cons (ss_set 1 nd (se_call (d_root_of W) (hr.mono (by decide)) (sa_cons (se_var 0) sa_nil)))
  (ss_cons (ss_set 2 nd (se_sub (se_var 1) (se_mod (se_sub (se_var 1) (se_var 0)) se_int)))
  (ss_cons (ss_par2 3 4 rfl nd (sb_f (se_var 2) (sb_f se_int sb_nil)))
  (ss_cons (ss_parT rfl (snm_cons 5 nd (snm_cons 6 nd (snm_cons 7 nd (snm_cons 8 nd snm_nil)))) (sb_f se_int (sb_f se_int (sb_f se_int (sb_f se_int sb_nil)))))
  (ss_cons (ss_parT rfl (snm_cons 9 nd (snm_cons 10 nd snm_nil)) (sb_f se_int (sb_f se_bl sb_nil)))
  (ss_cons (ss_while PassesOwn.never (st_val (se_var 10)) (ss_cons (ss_set 11 nd (se_div (se_add (se_var 3) (se_var 1)) (se_var 4)))
  (ss_cons (ss_par2 5 6 rfl nd (sb_f (se_add (se_mul (se_var 11) (se_var 5)) (se_var 6)) (sb_f (se_var 5) sb_nil)))
  (ss_cons (ss_par2 7 8 rfl nd (sb_f (se_add (se_mul (se_var 11) (se_var 7)) (se_var 8)) (sb_f (se_var 7) sb_nil)))
  (ss_cons (ss_set 3 nd (se_sub (se_mul (se_var 11) (se_var 4)) (se_var 3)))
  (ss_cons (ss_set 4 nd (se_div (se_sub (se_var 0) (se_mul (se_var 3) (se_var 3))) (se_var 4)))
  (ss_one (ss_par2 9 10 rfl nd (sb_f (se_neg (se_var 9)) (sb_f (se_ne (se_var 4) se_int) sb_nil))))))))))
  (ss_one (ss_ret (se_tup (sa_cons (se_sub (se_mul se_int (se_var 5)) (se_mul (se_var 2) (se_var 7))) (sa_cons (se_var 7) (sa_cons (se_var 9) sa_nil))))))))))))⟩) (W.g 50 rfl) (F.bindsN fun _ _ _ _ _ _ us hl => match us, hl with | [_], _ => rfl)
def s_united : En → Option Fl := sSeq (sAsg (fV 1) (gT (gsC (gN 3) (gsC (gN 4) (gsN)))))
  (sSeq (sAsg (fV 2) (gT (gsC (gN 5) (gsC (gN 6) (gsN)))))
  (sRet (fTup (fCons (f2 dDiv (f2 dAdd (f2 dMul (fV 3) (fV 5)) (f2 dMul (f2 dMul (fV 0) (fV 4)) (fV 6))) (fK (.int 2))) (fCons (f2 dDiv (f2 dAdd (f2 dMul (fV 3) (fV 6)) (f2 dMul (fV 5) (fV 4))) (fK (.int 2))) (fNil))))))
def F_united : List Dat → Option Dat := runF s_united 4
theorem sc_united : FnScope ["whole", "one", "other", "t", "u", "s", "v"] ["whole", "one", "other"] (defScope (top 87)) := ⟨rfl, rfl, rfl, by decide +kernel, rfl, by decide +kernel, by decide +kernel⟩
theorem d_united (W : Wf K mg) : DefOk P w K mg base (CF K) 1 "united" 3 F_united := by
  obtain ⟨fd, F⟩ := W.d 51 rfl
  have nd := sc_united.nd
  exact defok F (fn_spf (k := 0) F sc_united (by decide) fun cdv A outer sh H hr => ⟨_, (ss_cons (ss_asg (se_var 1) (sg_tupK (K := K) rfl (sgs_cons (sg_name 3 nd) (sgs_cons (sg_name 4 nd) sgs_nil))))
  (ss_cons (ss_asg (se_var 2) (sg_tupK (K := K) rfl (sgs_cons (sg_name 5 nd) (sgs_cons (sg_name 6 nd) sgs_nil))))
  (ss_one (ss_ret (se_tup (sa_cons (se_div (se_add (se_mul (se_var 3) (se_var 5)) (se_mul (se_mul (se_var 0) (se_var 4)) (se_var 6))) se_int) (sa_cons (se_div (se_add (se_mul (se_var 3) (se_var 6)) (se_mul (se_var 5) (se_var 4))) se_int) sa_nil)))))))⟩) (W.g 51 rfl) (F.bindsN fun _ _ _ _ _ _ us hl => match us, hl with | [_, _, _], _ => rfl)
def s_unit_for : En → Option Fl := sSeq (sAsg (fC F_first_pair (fCons (fV 0) (fNil))) (gT (gsC (gN 1) (gsC (gN 2) (gsC (gN 3) (gsN))))))
  (sRet (fIf (fB (f2 dEq (fV 3) (fK (.int 1)))) (fTup (fCons (fV 1) (fCons (fV 2) (fNil)))) (fC F_united (fCons (fV 0) (fCons (fTup (fCons (fV 1) (fCons (fV 2) (fNil)))) (fCons (fTup (fCons (fV 1) (fCons (fV 2) (fNil)))) (fNil)))))))
def F_unit_for : List Dat → Option Dat := runF s_unit_for 3
theorem sc_unit_for : FnScope ["whole", "t", "u", "sign"] ["whole"] (defScope (top 88)) := ⟨rfl, rfl, rfl, by decide +kernel, rfl, by decide +kernel, by decide +kernel⟩
theorem d_unit_for (W : Wf K mg) : DefOk P w K mg base (CF K) 3 "unit_for" 1 F_unit_for := by
  obtain ⟨fd, F⟩ := W.d 52 rfl
  have nd := sc_unit_for.nd
  exact defok F (fn_spf (k := 2) F sc_unit_for (by decide) fun cdv A outer sh H hr => ⟨_, (ss_cons (ss_asg (se_call (d_first_pair W) (hr.mono (by decide)) (sa_cons (se_var 0) sa_nil)) (sg_tupK (K := K) rfl (sgs_cons (sg_name 1 nd) (sgs_cons (sg_name 2 nd) (sgs_cons (sg_name 3 nd) sgs_nil)))))
  (ss_one (ss_ret (se_if (st_eq (se_var 3) se_int) (se_tup (sa_cons (se_var 1) (sa_cons (se_var 2) sa_nil))) (se_call (d_united W) (hr.mono (by decide)) (sa_cons (se_var 0) (sa_cons (se_tup (sa_cons (se_var 1) (sa_cons (se_var 2) sa_nil))) (sa_cons (se_tup (sa_cons (se_var 1) (sa_cons (se_var 2) sa_nil))) sa_nil))))))))⟩) (W.g 52 rfl) (F.bindsN fun _ _ _ _ _ _ us hl => match us, hl with | [_], _ => rfl)
def s_turn_for : En → Option Fl := sSeq (sAsg (fProp P_coefficients (fV 0)) (gT (gsC (gN 1) (gsC (gN 2) (gsC (gN 3) (gsN))))))
  (sSeq (sAsg (fC F_unit_for (fCons (fC F_discriminant_for (fCons (fV 0) (fNil))) (fNil))) (gT (gsC (gN 4) (gsC (gN 5) (gsN)))))
  (sRet (fTup (fCons (fTup (fCons (f2 dDiv (f2 dSub (fV 4) (f2 dMul (fV 2) (fV 5))) (fK (.int 2))) (fCons (f2 dMul (f1 dNeg (fV 3)) (fV 5)) (fNil)))) (fCons (fTup (fCons (f2 dMul (fV 1) (fV 5)) (fCons (f2 dDiv (f2 dAdd (fV 4) (f2 dMul (fV 2) (fV 5))) (fK (.int 2))) (fNil)))) (fNil))))))
def F_turn_for : List Dat → Option Dat := runF s_turn_for 5
theorem sc_turn_for : FnScope ["form", "a", "b", "c", "t", "u"] ["form"] (defScope (top 89)) := ⟨rfl, rfl, rfl, by decide +kernel, rfl, by decide +kernel, by decide +kernel⟩
theorem d_turn_for (W : Wf K mg) : DefOk P w K mg base (CF K) 4 "turn_for" 1 F_turn_for := by
  obtain ⟨fd, F⟩ := W.d 53 rfl
  have nd := sc_turn_for.nd
  exact defok F (fn_spf (k := 3) F sc_turn_for (by decide) fun cdv A outer sh H hr => ⟨_, (ss_cons (ss_asg (se_prop (p_coefficients W) (hr.mono (by decide)) (se_var 0)) (sg_tupK (K := K) rfl (sgs_cons (sg_name 1 nd) (sgs_cons (sg_name 2 nd) (sgs_cons (sg_name 3 nd) sgs_nil)))))
  (ss_cons (ss_asg (se_call (d_unit_for W) (hr.mono (by decide)) (sa_cons (se_call (d_discriminant_for W) (hr.mono (by decide)) (sa_cons (se_var 0) sa_nil)) sa_nil)) (sg_tupK (K := K) rfl (sgs_cons (sg_name 4 nd) (sgs_cons (sg_name 5 nd) sgs_nil))))
  (ss_one (ss_ret (se_tup (sa_cons (se_tup (sa_cons (se_div (se_sub (se_var 4) (se_mul (se_var 2) (se_var 5))) se_int) (sa_cons (se_mul (se_neg (se_var 3)) (se_var 5)) sa_nil))) (sa_cons (se_tup (sa_cons (se_mul (se_var 1) (se_var 5)) (sa_cons (se_div (se_add (se_var 4) (se_mul (se_var 2) (se_var 5))) se_int) sa_nil))) sa_nil)))))))⟩) (W.g 53 rfl) (F.bindsN fun _ _ _ _ _ _ us hl => match us, hl with | [_], _ => rfl)
def s_check_turned : En → Option Fl := sSeq (sExpr (fC F_check_binary (fCons (fV 0) (fNil))))
  (sSeq (sIf (fB (f2 dLt (fC F_discriminant_for (fCons (fV 0) (fNil))) (fK (.int 0)))) (sNever) (sNext))
  (sExpr (fC F_check_primitive (fCons (fV 0) (fNil)))))
def F_check_turned : List Dat → Option Dat := runF s_check_turned 0
theorem sc_check_turned : FnScope ["form"] ["form"] (defScope (top 90)) := ⟨rfl, rfl, rfl, by decide +kernel, rfl, by decide +kernel, by decide +kernel⟩
theorem d_check_turned (W : Wf K mg) : DefOk P w K mg base (CF K) 6 "check_turned" 1 F_check_turned := by
  obtain ⟨fd, F⟩ := W.d 54 rfl
  have nd := sc_check_turned.nd
  exact defok F (fn_spf (k := 5) F sc_check_turned (by decide) fun cdv A outer sh H hr => ⟨_, (ss_cons (ss_expr (se_call (d_check_binary W) (hr.mono (by decide)) (sa_cons (se_var 0) sa_nil)))
  (ss_cons (ss_if (st_lt (se_call (d_discriminant_for W) (hr.mono (by decide)) (sa_cons (se_var 0) sa_nil)) se_int) sss_never ss_nil)
  (ss_one (ss_expr (se_call (d_check_primitive W) (hr.mono (by decide)) (sa_cons (se_var 0) sa_nil))))))⟩) (W.g 54 rfl) (F.bindsN fun _ _ _ _ _ _ us hl => match us, hl with | [_], _ => rfl)
def s_turn : En → Option Fl := sSeq (sExpr (fC F_check_form (fCons (fV 0) (fNil))))
  (sSeq (sExpr (fC F_check_turned (fCons (fV 0) (fNil))))
  (sRet (fC F_turn_for (fCons (fV 0) (fNil)))))
def F_turn : List Dat → Option Dat := runF s_turn 0
theorem sc_turn : FnScope ["form"] ["form"] (defScope (top 91)) := ⟨rfl, rfl, rfl, by decide +kernel, rfl, by decide +kernel, by decide +kernel⟩
theorem d_turn (W : Wf K mg) : DefOk P w K mg base (CF K) 7 "turn" 1 F_turn := by
  obtain ⟨fd, F⟩ := W.d 55 rfl
  have nd := sc_turn.nd
  exact defok F (fn_spf (k := 6) F sc_turn (by decide) fun cdv A outer sh H hr => ⟨_, (ss_cons (ss_expr (se_call (d_check_form W) (hr.mono (by decide)) (sa_cons (se_var 0) sa_nil)))
  (ss_cons (ss_expr (se_call (d_check_turned W) (hr.mono (by decide)) (sa_cons (se_var 0) sa_nil)))
  (ss_one (ss_ret (se_call (d_turn_for W) (hr.mono (by decide)) (sa_cons (se_var 0) sa_nil))))))⟩) (W.g 55 rfl) (F.bindsN fun _ _ _ _ _ _ us hl => match us, hl with | [_], _ => rfl)
def s_check_number : En → Option Fl := sIf (fOr (fNot (fB (fC F_is_between (fCons (fV 0) (fCons (f1 dNeg (fK (.int (1000)))) (fCons (fK (.int (1000))) (fNil))))))) (fB (f2 dEq (fV 0) (fK (.int 0))))) (sNever) (sNext)
def F_check_number : List Dat → Option Dat := runF s_check_number 0
theorem sc_check_number : FnScope ["number"] ["number"] (defScope (top 94)) := ⟨rfl, rfl, rfl, by decide +kernel, rfl, by decide +kernel, by decide +kernel⟩
theorem d_check_number (W : Wf K mg) : DefOk P w K mg base (CF K) 3 "check_number" 1 F_check_number := by
  obtain ⟨fd, F⟩ := W.d 56 rfl
  have nd := sc_check_number.nd
  exact defok F (fn_spf (k := 2) F sc_check_number (by decide) fun cdv A outer sh H hr => ⟨_, (ss_one (ss_if (SWt.st (sw_or (st_not (st_val (se_call (d_is_between W) (hr.mono (by decide)) (sa_cons (se_var 0) (sa_cons (se_neg (se_gint (W.int_MOST_NUMBER))) (sa_cons (se_gint (W.int_MOST_NUMBER)) sa_nil)))))) (sw_or1 (st_eq (se_var 0) se_int)))) sss_never ss_nil))⟩) (W.g 56 rfl) (F.bindsN fun _ _ _ _ _ _ us hl => match us, hl with | [_], _ => rfl)
def s_square_parts : En → Option Fl := sRet (fLst (fLc (fRng2 (fCons (fK (.int 1)) (fCons (f2 dAdd (fC F_root_of (fCons (fC dAbs (fCons (fV 0) fNil)) (fNil))) (fK (.int 1))) (fNil)))) (gN 1) (fB (f2 dEq (f2 dMod (fV 0) (f2 dMul (fV 1) (fV 1))) (fK (.int 0)))) (fV 1) [1]))
def F_square_parts : List Dat → Option Dat := runF s_square_parts 1
theorem sc_square_parts : FnScope ["number", "part"] ["number"] (defScope (top 97)) := ⟨rfl, rfl, rfl, by decide +kernel, rfl, by decide +kernel, by decide +kernel⟩
theorem d_square_parts (W : Wf K mg) : DefOk P w K mg base (CF K) 2 "square_parts" 1 F_square_parts := by
  obtain ⟨fd, F⟩ := W.d 59 rfl
  have nd := sc_square_parts.nd
  exact defok F (fn_spf (k := 1) F sc_square_parts (by decide) fun cdv A outer sh H hr => ⟨_, (ss_one (ss_ret (SL.se (sl_lc (own := [("part", 1)]) rfl nd (blkOk_by (own := [("part", 1)]) (by kernel_rfl)) (by decide) (SI.w (si_rng2 W.b_range (sa_cons se_int (sa_cons (se_add (se_call (d_root_of W) (hr.mono (by decide)) (sa_cons (se_abs W.b_abs (se_var 0)) sa_nil)) se_int) sa_nil)))) (fun _ _ _ _ _ => (sg_name 1 nd)) (fun _ _ _ _ _ => (sts_one (st_eq (se_mod (se_var 0) (se_mul (se_var 1) (se_var 1))) se_int))) (fun _ _ _ _ _ => (se_var 1))))))⟩) (W.g 59 rfl) (F.bindsN fun _ _ _ _ _ _ us hl => match us, hl with | [_], _ => rfl)
def s_starts_of : En → Option Fl := sSeq (sSetO 2 (fNil))
  (sSeq (sFor (fSq (fC F_square_parts (fCons (fV 1) (fNil)))) (gN 3) (sFor (fSq (fC F_forms_with (fCons (fC F_discriminant_for (fCons (fV 0) (fNil))) (fCons (f2 dDiv (fV 1) (f2 dMul (fV 3) (fV 3))) (fNil))))) (gN 4) (sSeq (sSet 5 (fC F_change_to (fCons (fV 0) (fCons (fV 4) (fNil)))))
  (sIf (fB (f1 dNotN (fV 5))) (sApp 2 (fTup (fCons (f2 dMul (fV 3) (fIxL (fSq (fIxL (fSq (fV 5)) (fK (.int 0)))) (fK (.int 0)))) (fCons (f2 dMul (fV 3) (fIxL (fSq (fIxL (fSq (fV 5)) (fK (.int 1)))) (fK (.int 0)))) (fNil))))) (sNext)))))
  (sRetO (fO 2)))
def F_starts_of : List Dat → Option Dat := runF s_starts_of 4
theorem sc_starts_of : FnScope ["form", "number", "found", "part", "goal", "change"] ["form", "number"] (defScope (top 98)) := ⟨rfl, rfl, rfl, by decide +kernel, rfl, by decide +kernel, by decide +kernel⟩
theorem d_starts_of (W : Wf K mg) : DefOk P w K mg base (CF K) 11 "starts_of" 2 F_starts_of := by
  obtain ⟨fd, F⟩ := W.d 60 rfl
  have nd := sc_starts_of.nd
  exact defok F (fn_spf (k := 10) F sc_starts_of (by decide) fun cdv A outer sh H hr => ⟨_, (ss_cons (ss_setO 2 nd (sl_lst sa_nil))
  (ss_cons (ss_for PassesOwn.never rfl (si_seqK (K := K) (se_call (d_square_parts W) (hr.mono (by decide)) (sa_cons (se_var 1) sa_nil))) (sg_name 3 nd) (ss_one (ss_for PassesOwn.never rfl (si_seqK (K := K) (se_call (d_forms_with W) (hr.mono (by decide)) (sa_cons (se_call (d_discriminant_for W) (hr.mono (by decide)) (sa_cons (se_var 0) sa_nil)) (sa_cons (se_div (se_var 1) (se_mul (se_var 3) (se_var 3))) sa_nil)))) (sg_name 4 nd) (ss_cons (ss_set 5 nd (se_call (d_change_to W) (hr.mono (by decide)) (sa_cons (se_var 0) (sa_cons (se_var 4) sa_nil))))
  (ss_one (ss_if (st_notN (se_var 5)) (ss_one (ss_app 2 (se_tup (sa_cons (se_mul (se_var 3) (se_ixK (K := K) (SE.sq (se_ixK (K := K) (SE.sq (se_var 5)) se_int)) se_int)) (sa_cons (se_mul (se_var 3) (se_ixK (K := K) (SE.sq (se_ixK (K := K) (SE.sq (se_var 5)) se_int)) se_int)) sa_nil))))) ss_nil))))))
  (ss_one (ss_retO 2))))⟩) (W.g 60 rfl) (F.bindsN fun _ _ _ _ _ _ us hl => match us, hl with | [_, _], _ => rfl)
def s_is_given : En → Option Fl := sSeq (sSet 2 (fProp P_content (fV 0)))
  (sSeq (sIf (fB (f2 dNe (f2 dMod (fV 1) (fV 2)) (fK (.int 0)))) (sRet (fK (.bl false))) (sNext))
  (sSeq (sSet 3 (fC F_lead_of (fCons (fC F_Form (fCons (fC dTup (fLc (fSq (fProp P_coefficients (fV 0))) (gN 4) (fYes) (f2 dDiv (fV 4) (fV 2)) [4])) fNil)) (fNil))))
  (sRet (fC dNeNil (fUn (fC F_starts_of (fCons (fV 3) (fCons (f2 dDiv (fV 1) (fV 2)) (fNil)))))))))
def F_is_given : List Dat → Option Dat := runF s_is_given 3
theorem sc_is_given : FnScope ["form", "number", "content", "lead", "own"] ["form", "number"] (defScope (top 99)) := ⟨rfl, rfl, rfl, by decide +kernel, rfl, by decide +kernel, by decide +kernel⟩
theorem d_is_given (W : Wf K mg) : DefOk P w K mg base (CF K) 12 "is_given" 2 F_is_given := by
  obtain ⟨fd, F⟩ := W.d 61 rfl
  have nd := sc_is_given.nd
  exact defok F (fn_spf (k := 11) F sc_is_given (by decide) fun cdv A outer sh H hr => ⟨_, (ss_cons (ss_set 2 nd (se_prop (p_content W) (hr.mono (by decide)) (se_var 0)))
  (ss_cons (ss_if (st_ne (se_mod (se_var 1) (se_var 2)) se_int) (ss_one (ss_ret se_bl)) ss_nil)
  (ss_cons (ss_set 3 nd (se_call (d_lead_of W) (hr.mono (by decide)) (sa_cons (se_new (d_Form W) (hr.mono (by decide)) (se_tupofK (K := K) W.b_tuple (SW.sq (SL.sw (sl_lc (own := [("own", 4)]) rfl nd (blkOk_by (own := [("own", 4)]) (by kernel_rfl)) (by decide) (SI.w (si_seqK (K := K) (se_prop (p_coefficients W) (hr.mono (by decide)) (se_var 0)))) (fun _ _ _ _ _ => (sg_name 4 nd)) (fun _ _ _ _ _ => sts_nil) (fun _ _ _ _ _ => (se_div (se_var 4) (se_var 2)))))))) sa_nil)))
  (ss_one (ss_ret (se_neNilK (K := K) hr.units (SE.sw (se_call (d_starts_of W) (hr.mono (by decide)) (sa_cons (se_var 3) (sa_cons (se_div (se_var 1) (se_var 2)) sa_nil))))))))))⟩) (W.g 61 rfl) (F.bindsN fun _ _ _ _ _ _ us hl => match us, hl with | [_, _], _ => rfl)
def s_is_solved : En → Option Fl := sSeq (sExpr (fC F_check_form (fCons (fV 0) (fNil))))
  (sSeq (sExpr (fC F_check_number (fCons (fV 1) (fNil))))
  (sSeq (sExpr (fC F_check_binary (fCons (fV 0) (fNil))))
  (sRet (fC F_is_given (fCons (fV 0) (fCons (fV 1) (fNil)))))))
def F_is_solved : List Dat → Option Dat := runF s_is_solved 0
theorem sc_is_solved : FnScope ["form", "number"] ["form", "number"] (defScope (top 103)) := ⟨rfl, rfl, rfl, by decide +kernel, rfl, by decide +kernel, by decide +kernel⟩
theorem d_is_solved (W : Wf K mg) : DefOk P w K mg base (CF K) 13 "is_solved" 2 F_is_solved := by
  obtain ⟨fd, F⟩ := W.d 65 rfl
  have nd := sc_is_solved.nd
  exact defok F (fn_spf (k := 12) F sc_is_solved (by decide) fun cdv A outer sh H hr => ⟨_, (ss_cons (ss_expr (se_call (d_check_form W) (hr.mono (by decide)) (sa_cons (se_var 0) sa_nil)))
  (ss_cons (ss_expr (se_call (d_check_number W) (hr.mono (by decide)) (sa_cons (se_var 1) sa_nil)))
  (ss_cons (ss_expr (se_call (d_check_binary W) (hr.mono (by decide)) (sa_cons (se_var 0) sa_nil)))
  (ss_one (ss_ret (se_call (d_is_given W) (hr.mono (by decide)) (sa_cons (se_var 0) (sa_cons (se_var 1) sa_nil))))))))⟩) (W.g 65 rfl) (F.bindsN fun _ _ _ _ _ _ us hl => match us, hl with | [_, _], _ => rfl)
def s_weight_of : En → Option Fl := sSeq (sAsg (fV 0) (gT (gsC (gN 1) (gsC (gN 2) (gsN)))))
  (sRet (fTup (fCons (fC dAbs (fCons (fV 2) fNil)) (fCons (fC dAbs (fCons (fV 1) fNil)) (fCons (f1 dNeg (fV 1)) (fCons (f1 dNeg (fV 2)) (fNil)))))))
def F_weight_of : List Dat → Option Dat := runF s_weight_of 2
theorem sc_weight_of : FnScope ["point", "x", "y"] ["point"] (defScope (top 100)) := ⟨rfl, rfl, rfl, by decide +kernel, rfl, by decide +kernel, by decide +kernel⟩
theorem d_weight_of (W : Wf K mg) : DefOk P w K mg base (CF K) 1 "weight_of" 1 F_weight_of := by
  obtain ⟨fd, F⟩ := W.d 62 rfl
  have nd := sc_weight_of.nd
  exact defok F (fn_spf (k := 0) F sc_weight_of (by decide) fun cdv A outer sh H hr => ⟨_, (ss_cons (ss_asg (se_var 0) (sg_tupK (K := K) rfl (sgs_cons (sg_name 1 nd) (sgs_cons (sg_name 2 nd) sgs_nil))))
  (ss_one (ss_ret (se_tup (sa_cons (se_abs W.b_abs (se_var 2)) (sa_cons (se_abs W.b_abs (se_var 1)) (sa_cons (se_neg (se_var 1)) (sa_cons (se_neg (se_var 2)) sa_nil))))))))⟩) (W.g 62 rfl) (F.bindsN fun _ _ _ _ _ _ us hl => match us, hl with | [_], _ => rfl)
end
end L3
set_option maxHeartbeats 4000000
namespace L3
open PySem L2 RZ
section
variable {P : Program} {w : World} {K : PySem.W.Frag} {mg : Str → Option Value} {base : Heap}
def s_reduced_forms : En → Option Fl := sSeq (sSetO 2 (fNil))
  (sSeq (sSet 3 (fIf (fB (f2 dGt (fV 0) (fK (.int 0)))) (fC F_root_of (fCons (fV 0) (fNil))) (fC F_root_of (fCons (f2 dDiv (f1 dNeg (fV 0)) (fK (.int 3))) (fNil)))))
  (sSeq (sFor (fRng2 (fCons (fIf (fB (f2 dLt (fV 0) (fK (.int 0)))) (f1 dNeg (fV 3)) (fK (.int 1))) (fCons (f2 dAdd (fV 3) (fK (.int 1))) (fNil)))) (gN 4) (sIf (fB (f2 dEq (f2 dMod (f2 dSub (fV 4) (fV 0)) (fK (.int 2))) (fK (.int 0)))) (sSeq (sSet 5 (f2 dDiv (f2 dSub (f2 dMul (fV 4) (fV 4)) (fV 0)) (fK (.int 4))))
  (sFor (fSq (fC F_divisors_of (fCons (fC dAbs (fCons (fV 5) fNil)) (fNil)))) (gN 6) (sSeq (sSetO 7 (fCons (fC F_Form (fCons (fTup (fCons (fV 6) (fCons (fV 4) (fCons (f2 dDiv (fV 5) (fV 6)) (fNil))))) fNil)) (fNil)))
  (sSeq (sIf (fB (f2 dGt (fV 0) (fK (.int 0)))) (sApp 7 (fC F_Form (fCons (fTup (fCons (f1 dNeg (fV 6)) (fCons (fV 4) (fCons (f2 dDiv (f1 dNeg (fV 5)) (fV 6)) (fNil))))) fNil))) (sNext))
  (sExt 2 (fLc (fO 7) (gN 8) (fAnd (fB (fC F_is_reduced_form (fCons (fV 8) (fNil)))) (fOr (fB (fV 1)) (fB (f2 dEq (fProp P_content (fV 8)) (fK (.int 1)))))) (fV 8) [8])))))) (sNext)))
  (sRetO (fO 2))))
def G_reduced_forms : List Dat → Option Dat := runF s_reduced_forms 7
theorem sc_reduced_forms : FnScope ["whole", "is_any", "found", "most", "b", "product", "a", "some", "form"] ["whole", "is_any"] (defScope (top 80)) := ⟨rfl, rfl, rfl, by decide +kernel, rfl, by decide +kernel, by decide +kernel⟩
def F_reduced_forms : List Dat → Option Dat := fun as => G_reduced_forms (as ++ [.bl false])
theorem d_reduced_forms (W : Wf K mg) : DefOk P w K mg base (CF K) 8 "reduced_forms" 1 F_reduced_forms := by
  obtain ⟨fd, F⟩ := W.d 45 rfl
  have nd := sc_reduced_forms.nd
  obtain ⟨ds, hv, hb⟩ := FunD.binds1 (ps := ["whole", "is_any"]) F 1 0 (fun z => by cases z) rfl (fun T kV doc pm an cdv ct us its h1 h2 => match us, its, h1, h2 with | [_], [_], _, _ => ⟨_, rfl, rfl⟩)
  exact ⟨_, fd, ["whole", "is_any"], [.bl false], [V.bl false], ds, G_reduced_forms, (fn_spf (k := 7) F sc_reduced_forms (by decide) fun cdv A outer sh H hr => ⟨_, (ss_cons (ss_setO 2 nd (sl_lst sa_nil))
  (ss_cons (ss_set 3 nd (se_if (st_gt (se_var 0) se_int) (se_call (d_root_of W) (hr.mono (by decide)) (sa_cons (se_var 0) sa_nil)) (se_call (d_root_of W) (hr.mono (by decide)) (sa_cons (se_div (se_neg (se_var 0)) se_int) sa_nil))))
  (ss_cons (ss_for PassesOwn.never rfl (si_rng2 W.b_range (sa_cons (se_if (st_lt (se_var 0) se_int) (se_neg (se_var 3)) se_int) (sa_cons (se_add (se_var 3) se_int) sa_nil))) (sg_name 4 nd) (ss_one (ss_if (st_eq (se_mod (se_sub (se_var 4) (se_var 0)) se_int) se_int) (ss_cons (ss_set 5 nd (se_div (se_sub (se_mul (se_var 4) (se_var 4)) (se_var 0)) se_int))
  (ss_one (ss_for PassesOwn.never rfl (si_seqK (K := K) (se_call (d_divisors_of W) (hr.mono (by decide)) (sa_cons (se_abs W.b_abs (se_var 5)) sa_nil))) (sg_name 6 nd) (ss_cons (ss_setO 7 nd (sl_lst (sa_cons (se_new (d_Form W) (hr.mono (by decide)) (se_tup (sa_cons (se_var 6) (sa_cons (se_var 4) (sa_cons (se_div (se_var 5) (se_var 6)) sa_nil))))) sa_nil)))
  (ss_cons (ss_if (st_gt (se_var 0) se_int) (ss_one (ss_app 7 (se_new (d_Form W) (hr.mono (by decide)) (se_tup (sa_cons (se_neg (se_var 6)) (sa_cons (se_var 4) (sa_cons (se_div (se_neg (se_var 5)) (se_var 6)) sa_nil))))))) ss_nil)
  (ss_one (ss_ext 2 (SL.sw (sl_lc (own := [("form", 8)]) rfl nd (blkOk_by (own := [("form", 8)]) (by kernel_rfl)) (by decide) (siw_owK (K := K) (sw_ow 7)) (fun _ _ _ _ _ => (sg_name 8 nd)) (fun _ _ _ _ _ => (sts_one (SWt.st (sw_and (st_val (se_call (d_is_reduced_form W) (hr.mono (by decide)) (sa_cons (se_var 8) sa_nil))) (sw_and1 (SWt.st (sw_or (st_val (se_var 1)) (sw_or1 (st_eq (se_prop (p_content W) (hr.mono (by decide)) (se_var 8)) se_int))))))))) (fun _ _ _ _ _ => (se_var 8))))))))))) ss_nil)))
  (ss_one (ss_retO 2)))))⟩), W.g 45 rfl, F.kp, hb, hv, fun _ => rpl_cons rp_bl rpl_nil, rfl⟩
end
end L3
set_option maxHeartbeats 4000000
namespace L3
open PySem L2 RZ
/-! ### sorting: the order, the function -/
theorem llt_irrefl : ∀ a : List Int, llt a a = false
  | [] => rfl
  | x :: a => by
    unfold llt
    rw [if_pos rfl]; exact llt_irrefl a
theorem llt_total : ∀ a b : List Int, llt a b = false → llt b a = false → a = b
  | [], [], _, _ => rfl
  | [], _ :: _, h, _ => by cases h
  | _ :: _, [], _, h => by cases h
  | x :: a, y :: b, h, h' => by
    unfold llt at h h'
    by_cases e : x = y
    · rw [if_pos e] at h
      rw [if_pos e.symm] at h'
      rw [e, llt_total a b h h']
    · rw [if_neg e] at h
      rw [if_neg (Ne.symm e)] at h'
      have h1 := of_decide_eq_false h
      have h2 := of_decide_eq_false h'
      omega
theorem llt_le_trans : ∀ a b c : List Int, llt b a = false → llt c b = false → llt c a = false
  | [], _, [], _, _ => rfl
  | [], [], _ :: _, _, _ => rfl
  | [], _ :: _, _ :: _, _, _ => rfl
  | _ :: _, [], _, h, _ => by cases h
  | _ :: _, _ :: _, [], _, h => by cases h
  | x :: a, y :: b, z :: c, h, h' => by
    unfold llt at h h' ⊢
    by_cases e : z = x
    · rw [if_pos e]
      by_cases e2 : y = x
      · rw [if_pos e2] at h
        rw [if_pos (e.trans e2.symm)] at h'
        exact llt_le_trans a b c h h'
      · rw [if_neg e2] at h
        have h1 := of_decide_eq_false h
        have e3 : ¬ z = y := fun q => e2 (q.symm.trans e)
        rw [if_neg e3] at h'
        have h2 := of_decide_eq_false h'
        omega
    · rw [if_neg e]
      refine decide_eq_false fun hlt => ?_
      by_cases e2 : y = x
      · by_cases e3 : z = y
        · exact e (e3.trans e2)
        · rw [if_neg e3] at h'
          have h2 := of_decide_eq_false h'
          omega
      · rw [if_neg e2] at h
        have h1 := of_decide_eq_false h
        by_cases e3 : z = y
        · omega
        · rw [if_neg e3] at h'
          have h2 := of_decide_eq_false h'
          omega
theorem llt_asymm {a b : List Int} (h : llt a b = true) : llt b a = false := by
  cases q : llt b a with
  | false => rfl
  | true =>
    exfalso
    have : ∀ a b : List Int, llt a b = true → llt b a = true → False := by
      intro a
      induction a with
      | nil => intro b h h'; cases b <;> cases h'
      | cons x a ih =>
        intro b h h'
        cases b with
        | nil => cases h
        | cons y b =>
          unfold llt at h h'
          by_cases e : x = y
          · rw [if_pos e] at h
            rw [if_pos e.symm] at h'
            exact ih b h h'
          · rw [if_neg e] at h
            rw [if_neg (Ne.symm e)] at h'
            have h1 := of_decide_eq_true h
            have h2 := of_decide_eq_true h'
            omega
    exact this a b h q
def insT (t : List Int) : List (List Int) → List (List Int)
  | [] => [t]
  | u :: us => if llt u t then u :: insT t us else t :: u :: us
def sortT : List (List Int) → List (List Int)
  | [] => []
  | t :: ts => insT t (sortT ts)
theorem insT_perm (t : List Int) : ∀ us : List (List Int), (insT t us).Perm (t :: us)
  | [] => .refl _
  | u :: us => by
    unfold insT
    split
    · exact ((insT_perm t us).cons u).trans (.swap t u us)
    · exact .refl _
theorem sortT_perm : ∀ ts : List (List Int), (sortT ts).Perm ts
  | [] => .refl _
  | t :: ts => (insT_perm t (sortT ts)).trans ((sortT_perm ts).cons t)
def Asc (ts : List (List Int)) : Prop := ts.Pairwise fun a b => llt b a = false
theorem insT_asc {t : List Int} : ∀ {us : List (List Int)}, Asc us → Asc (insT t us)
  | [], _ => List.pairwise_singleton ..
  | u :: us, h => by
    obtain ⟨h1, h2⟩ := List.pairwise_cons.mp h
    unfold insT
    split
    · rename_i hlt
      refine List.pairwise_cons.mpr ⟨fun x hx => ?_, insT_asc h2⟩
      rcases List.mem_cons.mp ((insT_perm t us).mem_iff.mp hx) with e | e
      · rw [e]; exact llt_asymm hlt
      · exact h1 x e
    · rename_i hlt
      have hlt' : llt u t = false := by simpa using hlt
      refine List.pairwise_cons.mpr ⟨fun x hx => ?_, h⟩
      rcases List.mem_cons.mp hx with e | e
      · rw [e]; exact hlt'
      · exact llt_le_trans t u x hlt' (h1 x e)
theorem sortT_asc : ∀ ts : List (List Int), Asc (sortT ts)
  | [] => .nil
  | t :: ts => insT_asc (sortT_asc ts)
theorem sortT_of {us ts : List (List Int)} (p : us.Perm ts) (a : Asc us) : us = sortT ts :=
  List.Perm.eq_of_pairwise (fun a b _ _ h1 h2 => llt_total a b h2 h1) a (sortT_asc ts) (p.trans (sortT_perm ts).symm)
def insI (n : Int) : List Int → List Int
  | [] => [n]
  | m :: ms => if m < n then m :: insI n ms else n :: m :: ms
def sortI : List Int → List Int
  | [] => []
  | n :: ns => insI n (sortI ns)
theorem insI_perm (n : Int) : ∀ ms : List Int, (insI n ms).Perm (n :: ms)
  | [] => .refl _
  | m :: ms => by
    unfold insI
    split
    · exact ((insI_perm n ms).cons m).trans (.swap n m ms)
    · exact .refl _
theorem sortI_perm : ∀ ns : List Int, (sortI ns).Perm ns
  | [] => .refl _
  | n :: ns => (insI_perm n (sortI ns)).trans ((sortI_perm ns).cons n)
theorem insI_asc {n : Int} : ∀ {ms : List Int}, ms.Pairwise (· ≤ ·) → (insI n ms).Pairwise (· ≤ ·)
  | [], _ => List.pairwise_singleton ..
  | m :: ms, h => by
    obtain ⟨h1, h2⟩ := List.pairwise_cons.mp h
    unfold insI
    split
    · rename_i hlt
      refine List.pairwise_cons.mpr ⟨fun x hx => ?_, insI_asc h2⟩
      rcases List.mem_cons.mp ((insI_perm n ms).mem_iff.mp hx) with e | e
      · omega
      · exact h1 x e
    · rename_i hlt
      refine List.pairwise_cons.mpr ⟨fun x hx => ?_, h⟩
      rcases List.mem_cons.mp hx with e | e
      · omega
      · have := h1 x e; omega
theorem sortI_asc : ∀ ns : List Int, (sortI ns).Pairwise (· ≤ ·)
  | [] => .nil
  | n :: ns => insI_asc (sortI_asc ns)
theorem sortI_of {us ns : List Int} (p : us.Perm ns) (a : us.Pairwise (· ≤ ·)) : us = sortI ns :=
  List.Perm.eq_of_pairwise (fun a b _ _ h1 h2 => by omega) a (sortI_asc ns) (p.trans (sortI_perm ns).symm)
/-! ### sorted(list of tuples of ints) -/
/-- the values, their tuples: sorted by the tuples -/
def SortedAs (zs bs : List (V × List Int)) : Prop := zs.Perm bs ∧ Asc (zs.map (·.2))
abbrev encB (b : V × List Int) : PyData := ptup b.2
theorem each_vals {s : Shared} : ∀ {xs : List V} {its : List Value} {ts : List (List Int)} {as : List Addr}, Vals xs its → ReadsAll s.heap its (ts.map ptup) as →
    PySem.W.EachIs (fun v (b : V × List Int) => RelV b.1 v ∧ ∃ as, Reads s.heap v (encB b) as) its (xs.zip ts) ∧ xs.length = ts.length
  | [], _, [], _, .nil, _ => ⟨.nil, rfl⟩
  | [], _, t :: ts, _, .nil, r => by cases r
  | x :: xs, _, [], _, .cons _ _, r => by cases r
  | x :: xs, _ :: its, t :: ts, as, .cons h r, q => by
    cases q with
    | cons r1 r2 =>
      obtain ⟨k1, k2⟩ := each_vals r r2
      exact ⟨.cons ⟨h, _, r1⟩ k1, by rw [List.length_cons, List.length_cons, k2]⟩
theorem asc_merge (bs : List (V × List Int)) : SortedAs (bs.mergeSort (PySem.W.dataLe false encB)) bs := by
  have e : PySem.W.dataLe false encB = fun a b => !llt b.2 a.2 := by
    rw [PySem.W.dataLe_eq]
    funext a b
    show (!PySem.W.dataLt (ptup b.2) (ptup a.2)) = _
    rw [dataLt_tups]
  rw [e]
  refine ⟨List.mergeSort_perm .., ?_⟩
  have h := List.pairwise_mergeSort (le := fun (a b : V × List Int) => !llt b.2 a.2) (fun a b c h1 h2 => by
    have h1' : llt b.2 a.2 = false := by simpa using h1
    have h2' : llt c.2 b.2 = false := by simpa using h2
    simpa using llt_le_trans a.2 b.2 c.2 h1' h2') (fun a b => by
    cases q : llt b.2 a.2 with
    | false => simp
    | true => simp [llt_asymm q]) bs
  refine List.pairwise_map.mpr (h.imp fun {a b} h => by simpa using h)
def rSortP (K : PySem.W.Frag) : List V → Hp → VK → Prop := fun vs H Q => ∃ (a : Addr) (xs : List V) (ts : List (List Int)), vs = [V.ref a] ∧ SqL K H a xs ∧ DpAll K H xs (ts.map ptup) ∧ (∀ t ∈ ts, t ≠ []) ∧
  ∀ (zs : List (V × List Int)) (p : Addr), SortedAs zs (xs.zip ts) → H p = none → Q (.ref p) (upd H p (.lst (zs.map (·.1))))
theorem vals_each {bs : List (V × List Int)} {out : List Value} {R : Value → V × List Int → Prop} (e : PySem.W.EachIs R out bs) (h : ∀ v b, R v b → RelV b.1 v) : Vals (bs.map (·.1)) out := by
  induction e with
  | nil => exact .nil
  | cons r _ ih => exact .cons (h _ _ r) ih
theorem sortable_tups {bs : List (V × List Int)} (h : ∀ b ∈ bs, b.2 ≠ []) : PySem.W.Sortable (bs.map encB) := .inl fun d hd => by
  obtain ⟨b, hb, rfl⟩ := List.mem_map.mp hd
  have := h b hb
  cases q : b.2 with
  | nil => exact absurd q this
  | cons n r => exact ⟨.int n, r.map .int, by unfold encB ptup; rw [q]; rfl⟩
theorem alikeB (bs : List (V × List Int)) : PySem.W.AllAlike (bs.map encB) := PySem.W.AllAlike.of fun b b' => by
  unfold encB ptup
  simp only [PySem.W.alike]
  exact alike_ints _ _
theorem depthB (b : V × List Int) : (encB b).depth ≤ 1 := by
  unfold encB ptup
  simp only [PyData.depth, depth_ints]
  decide
theorem cr_sortP {X : Cx} (hu : X.A.units + 64 < cLine) : CallR X (.builtin "sorted") (rSortP X.K) := by
  intro pins s σ H vs us Q I r h
  obtain ⟨a, xs, ts, rfl, hs, hd, hne, q⟩ := h
  obtain ⟨its, rv, hl, hz⟩ := I.list hs
  rw [Vals.ref1 r]
  obtain ⟨as, h4⟩ := Dp.readsAll I _ _ its hd rv
  obtain ⟨e, hlen⟩ := each_vals rv h4
  have lz : (xs.zip ts).length = its.length := e.length.symm
  refine PySem.W.sorted_data (enc := encB) hl.isList e (e.mono fun _ _ h => h.2) (alikeB _) (sortable_tups fun b hb => hne _ (List.of_mem_zip hb).2) (by rw [lz, ← rv.length]; exact hz) (fun b _ => ?_) fun out ho eo => ?_
  · have := depthB b; omega
  · obtain ⟨ep, he'⟩ := PyProof.Rows.sortedAll_at s.heap its (List.toArray out)
    have hv : Vals (((xs.zip ts).mergeSort (PySem.W.dataLe false encB)).map (·.1)) out := vals_each eo fun _ _ h => h.1
    have hlen2 : (((xs.zip ts).mergeSort (PySem.W.dataLe false encB)).map (·.1)).length ≤ sizeLine := by
      rw [List.length_map, List.length_mergeSort, lz, ← rv.length]; exact hz
    exact ⟨.ref _, upd H (s.heap.objs.size + 1) (.lst _), I.laid (t' := s.toks) (fun _ _ => PyProof.Rows.sortedAll_old) (Nat.le_succ _) ⟨hlen2, out, ep, hv, by simpa using he'⟩, rfl, q _ _ (asc_merge _) (I.hok.fresh (Nat.le_succ _))⟩
def dSortP (ds : List Dat) : Option Dat := (tupsOf ds).bind fun ts => if ts.all (fun t => !t.isEmpty) then some (.lst ((sortT ts).map tupI)) else none
def dSortI (ds : List Dat) : Option Dat := (intsOf ds).bind fun ns => if ns.length < 64 then some (.lst ((sortI ns).map Dat.int)) else none
theorem rpl_zip {C : Addr} {H : Hp} : ∀ {zs : List (V × List Int)}, (∀ z ∈ zs, Rp C H (tupI z.2) z.1) → RpL C H ((zs.map (·.2)).map tupI) (zs.map (·.1))
  | [], _ => rpl_nil
  | z :: zs, h => rpl_cons (h z (List.mem_cons_self ..)) (rpl_zip fun y hy => h y (List.mem_cons_of_mem _ hy))
theorem zip_rp {C : Addr} {H : Hp} : ∀ {ts : List (List Int)} {xs : List V}, RpL C H (ts.map tupI) xs → ∀ z ∈ xs.zip ts, Rp C H (tupI z.2) z.1
  | [], xs, r, z, hz => by simp at hz
  | t :: ts, xs, r, z, hz => by
    obtain ⟨x, rest, rfl, h1, h2⟩ := r.cons
    rcases List.mem_cons.mp (show z ∈ (x, t) :: rest.zip ts from hz) with e | e
    · rw [e]; exact h1
    · exact zip_rp h2 z e
theorem zip_snd : ∀ {xs : List V} {ts : List (List Int)}, xs.length = ts.length → (xs.zip ts).map (·.2) = ts
  | [], [], _ => rfl
  | [], _ :: _, h => by cases h
  | _ :: _, [], h => by cases h
  | x :: xs, t :: ts, h => by
    show t :: (xs.zip ts).map (·.2) = _
    rw [zip_snd (by simpa using h)]
section
variable {C : Addr} {X : Cx} {K : PySem.W.Frag} {e : Expr} {pos p : Pos} {la : En → Option (List Dat)} {ue : TE}
theorem se_sortPK (hm : X.mg "sorted" = none) (hu : X.A.units + 64 < cLine) (ha : SW X C e ue la) (hg : Gl X "sorted" := by rfl) (he : starEach [e] X.env = [(false, eval e X.env)] := by rfl) (hK : X.K = K := by rfl) :
    SE X C (.Call (.Name "sorted" p) [e] [] pos) (tCB (rSortP K) (tCons ue tNil)) (fC dSortP la) := by
  subst hK
  exact se_callBW (cr_sortP hu) (fun Hk H l xs ds d hl h r e Q q => by
    unfold dSortP at e
    obtain ⟨ts, e1, e⟩ := Option.bind_eq_some_iff.mp e
    split at e
    · rename_i hne
      cases e
      rw [tupsOf_map e1] at r
      have hlen : xs.length = ts.length := by have := r.length; rwa [List.length_map] at this
      refine ⟨l, xs, ts, rfl, SqL.of h, pdL_dp hl r (pdL_tups ts), fun t ht z => ?_, fun zs p hz hp => ?_⟩
      · have := List.all_eq_true.mp hne t ht
        rw [z] at this
        cases this
      · have es : zs.map (·.2) = sortT ts := sortT_of (by have := hz.1.map (·.2); rwa [zip_snd hlen] at this) hz.2
        refine q _ _ _ (Nx.new hl hp) (rp_lst upd_same ?_)
        rw [← es]
        exact (rpl_zip fun z hm => zip_rp r z (hz.1.mem_iff.mp hm)).mono (Le.new (hl.free hp))
    · cases e) hm ha (by decide +kernel) hg (by decide) (by decide) he
theorem se_sortIK (hm : X.mg "sorted" = none) (ha : SW X C e ue la) (hg : Gl X "sorted" := by rfl) (he : starEach [e] X.env = [(false, eval e X.env)] := by rfl) (hK : X.K = K := by rfl) :
    SE X C (.Call (.Name "sorted" p) [e] [] pos) (tCB (rSorted K) (tCons ue tNil)) (fC dSortI la) := by
  subst hK
  exact se_callBW cr_sorted (fun Hk H l xs ds d hl h r e Q q => by
    unfold dSortI at e
    obtain ⟨ns, e1, e⟩ := Option.bind_eq_some_iff.mp e
    split at e
    · rename_i hn
      cases e
      rw [intsOf_map e1] at r
      rw [r.ints] at h
      refine ⟨l, ns, rfl, SqL.of h, hn, fun ns' p hp ha hn' => ?_⟩
      rw [sortI_of hp ha]
      exact q _ _ _ (Nx.new hl hn') (rp_lst upd_same rpl_ints)
    · cases e) hm ha (by decide +kernel) hg (by decide) (by decide) he
end
end L3
set_option maxHeartbeats 4000000
namespace L3
open PySem L2 RZ
section
variable {P : Program} {w : World} {K : PySem.W.Frag} {mg : Str → Option Value} {base : Heap}
def s_lines_at : En → Option Fl := sSeq (sAsg (fTakeT 2 (fProp P_coefficients (fV 0))) (gT (gsC (gN 3) (gsC (gN 4) (gsN)))))
  (sSeq (sSet 5 (f2 dAdd (f2 dMul (f2 dMul (fC F_discriminant_for (fCons (fV 0) (fNil))) (fV 2)) (fV 2)) (f2 dMul (f2 dMul (fK (.int 4)) (fV 3)) (fV 1))))
  (sSeq (sIf (fNot (fB (fC F_is_square (fCons (fV 5) (fNil))))) (sRet (fLst (fNil))) (sNext))
  (sSeq (sSet 6 (fC F_root_of (fCons (fV 5) (fNil))))
  (sSeq (sSet 7 (fIf (fB (f2 dGt (fV 6) (fK (.int 0)))) (fLst (fCons (f2 dSub (f2 dMul (f1 dNeg (fV 4)) (fV 2)) (fV 6)) (fCons (f2 dAdd (f2 dMul (f1 dNeg (fV 4)) (fV 2)) (fV 6)) (fNil)))) (fLst (fCons (f2 dMul (f1 dNeg (fV 4)) (fV 2)) (fNil)))))
  (sRet (fC dSortI (fLc (fSq (fV 7)) (gN 8) (fB (f2 dEq (f2 dMod (fV 8) (f2 dMul (fK (.int 2)) (fV 3))) (fK (.int 0)))) (f2 dDiv (fV 8) (f2 dMul (fK (.int 2)) (fV 3))) [8])))))))
def F_lines_at : List Dat → Option Dat := runF s_lines_at 6
theorem sc_lines_at : FnScope ["form", "number", "y", "a", "b", "inner", "root", "tops", "top"] ["form", "number", "y"] (defScope (top 95)) := ⟨rfl, rfl, rfl, by decide +kernel, rfl, by decide +kernel, by decide +kernel⟩
theorem d_lines_at (W : Wf K mg) : DefOk P w K mg base (CF K) 4 "lines_at" 3 F_lines_at := by
  obtain ⟨fd, F⟩ := W.d 57 rfl
  have nd := sc_lines_at.nd
  exact defok F (fn_spf (k := 3) F sc_lines_at (by decide) fun cdv A outer sh H hr => ⟨_, (ss_cons (ss_asg (se_takeTK (K := K) (se_prop (p_coefficients W) (hr.mono (by decide)) (se_var 0)) (k := 2)) (sg_tupK (K := K) rfl (sgs_cons (sg_name 3 nd) (sgs_cons (sg_name 4 nd) sgs_nil))))
  (ss_cons (ss_set 5 nd (se_add (se_mul (se_mul (se_call (d_discriminant_for W) (hr.mono (by decide)) (sa_cons (se_var 0) sa_nil)) (se_var 2)) (se_var 2)) (se_mul (se_mul se_int (se_var 3)) (se_var 1))))
  (ss_cons (ss_if (st_not (st_val (se_call (d_is_square W) (hr.mono (by decide)) (sa_cons (se_var 5) sa_nil)))) (ss_one (ss_ret (SL.se (sl_lst sa_nil)))) ss_nil)
  (ss_cons (ss_set 6 nd (se_call (d_root_of W) (hr.mono (by decide)) (sa_cons (se_var 5) sa_nil)))
  (ss_cons (ss_set 7 nd (se_if (st_gt (se_var 6) se_int) (SL.se (sl_lst (sa_cons (se_sub (se_mul (se_neg (se_var 4)) (se_var 2)) (se_var 6)) (sa_cons (se_add (se_mul (se_neg (se_var 4)) (se_var 2)) (se_var 6)) sa_nil)))) (SL.se (sl_lst (sa_cons (se_mul (se_neg (se_var 4)) (se_var 2)) sa_nil)))))
  (ss_one (ss_ret (se_sortIK (K := K) W.b_sorted (SL.sw (sl_lc (own := [("top", 8)]) rfl nd (blkOk_by (own := [("top", 8)]) (by kernel_rfl)) (by decide) (SI.w (si_seqK (K := K) (se_var 7))) (fun _ _ _ _ _ => (sg_name 8 nd)) (fun _ _ _ _ _ => (sts_one (st_eq (se_mod (se_var 8) (se_mul se_int (se_var 3))) se_int))) (fun _ _ _ _ _ => (se_div (se_var 8) (se_mul se_int (se_var 3))))))))))))))⟩) (W.g 57 rfl) (F.bindsN fun _ _ _ _ _ _ us hl => match us, hl with | [_, _, _], _ => rfl)
def s_box_of : En → Option Fl := sSeq (sSetO 3 (fNil))
  (sSeq (sFor (fRng2 (fCons (f1 dNeg (fV 2)) (fCons (f2 dAdd (fV 2) (fK (.int 1))) (fNil)))) (gN 4) (sExt 3 (fLc (fSq (fC F_lines_at (fCons (fV 0) (fCons (fV 1) (fCons (fV 4) (fNil)))))) (gN 5) (fB (fChain dLe dLe (f1 dNeg (fV 2)) (fV 5) (fV 2))) (fTup (fCons (fV 5) (fCons (fV 4) (fNil)))) [5])))
  (sRet (fC dSortP (fO 3))))
def F_box_of : List Dat → Option Dat := runF s_box_of 3
theorem sc_box_of : FnScope ["form", "number", "size", "found", "y", "x"] ["form", "number", "size"] (defScope (top 96)) := ⟨rfl, rfl, rfl, by decide +kernel, rfl, by decide +kernel, by decide +kernel⟩
theorem d_box_of (W : Wf K mg) : DefOk P w K mg base (CF K) 5 "box_of" 3 F_box_of := by
  obtain ⟨fd, F⟩ := W.d 58 rfl
  have nd := sc_box_of.nd
  exact defok F (fn_spf (k := 4) F sc_box_of (by decide) fun cdv A outer sh H hr => ⟨_, (ss_cons (ss_setO 3 nd (sl_lst sa_nil))
  (ss_cons (ss_for PassesOwn.never rfl (si_rng2 W.b_range (sa_cons (se_neg (se_var 2)) (sa_cons (se_add (se_var 2) se_int) sa_nil))) (sg_name 4 nd) (ss_one (ss_ext 3 (SL.sw (sl_lc (own := [("x", 5)]) rfl nd (blkOk_by (own := [("x", 5)]) (by kernel_rfl)) (by decide) (SI.w (si_seqK (K := K) (se_call (d_lines_at W) (hr.mono (by decide)) (sa_cons (se_var 0) (sa_cons (se_var 1) (sa_cons (se_var 4) sa_nil)))))) (fun _ _ _ _ _ => (sg_name 5 nd)) (fun _ _ _ _ _ => (sts_one (st_le_le (se_neg (se_var 2)) (se_var 5) (se_var 2)))) (fun _ _ _ _ _ => (se_tup (sa_cons (se_var 5) (sa_cons (se_var 4) sa_nil)))))))))
  (ss_one (ss_ret (se_sortPK (K := K) W.b_sorted hr.units (sw_ow 3))))))⟩) (W.g 58 rfl) (F.bindsN fun _ _ _ _ _ _ us hl => match us, hl with | [_, _, _], _ => rfl)
def s_solutions_in_box : En → Option Fl := sSeq (sExpr (fC F_check_form (fCons (fV 0) (fNil))))
  (sSeq (sExpr (fC F_check_number (fCons (fV 1) (fNil))))
  (sSeq (sIf (fNot (fB (fC F_is_between (fCons (fV 2) (fCons (fK (.int 0)) (fCons (fK (.int (1000))) (fNil))))))) (sNever) (sNext))
  (sSeq (sExpr (fC F_check_binary (fCons (fV 0) (fNil))))
  (sRet (fC dTup (fSq (fC F_box_of (fCons (fV 0) (fCons (fV 1) (fCons (fV 2) (fNil)))))))))))
def F_solutions_in_box : List Dat → Option Dat := runF s_solutions_in_box 0
theorem sc_solutions_in_box : FnScope ["form", "number", "size"] ["form", "number", "size"] (defScope (top 104)) := ⟨rfl, rfl, rfl, by decide +kernel, rfl, by decide +kernel, by decide +kernel⟩
theorem d_solutions_in_box (W : Wf K mg) : DefOk P w K mg base (CF K) 6 "solutions_in_box" 3 F_solutions_in_box := by
  obtain ⟨fd, F⟩ := W.d 66 rfl
  have nd := sc_solutions_in_box.nd
  exact defok F (fn_spf (k := 5) F sc_solutions_in_box (by decide) fun cdv A outer sh H hr => ⟨_, (ss_cons (ss_expr (se_call (d_check_form W) (hr.mono (by decide)) (sa_cons (se_var 0) sa_nil)))
  (ss_cons (ss_expr (se_call (d_check_number W) (hr.mono (by decide)) (sa_cons (se_var 1) sa_nil)))
  (ss_cons (ss_if (st_not (st_val (se_call (d_is_between W) (hr.mono (by decide)) (sa_cons (se_var 2) (sa_cons se_int (sa_cons (se_gint (W.int_MOST_BOX)) sa_nil)))))) sss_never ss_nil)
  (ss_cons (ss_expr (se_call (d_check_binary W) (hr.mono (by decide)) (sa_cons (se_var 0) sa_nil)))
  (ss_one (ss_ret (se_tupofK (K := K) W.b_tuple (SE.sq (se_call (d_box_of W) (hr.mono (by decide)) (sa_cons (se_var 0) (sa_cons (se_var 1) (sa_cons (se_var 2) sa_nil))))))))))))⟩) (W.g 66 rfl) (F.bindsN fun _ _ _ _ _ _ us hl => match us, hl with | [_, _, _], _ => rfl)
end
end L3
set_option maxHeartbeats 4000000
namespace L3
open PySem L2 RZ
/-! ### dicts with int keys, as data -/
def getD (k : Int) : List Int → List Dat → Option Dat
  | j :: ks, d :: ds => if j = k then some d else getD k ks ds
  | _, _ => none
def dIxD : Dat → Dat → Option Dat
  | .dic ks ds, .int k => getD k ks ds
  | _, _ => none
theorem getD_val {C : Addr} {H : Hp} {k : Int} : ∀ {ks : List Int} {ds : List Dat} {kvs : List (Key × V)} {d : Dat}, kvs.map (·.1) = ks.map Sum.inl → RpL C H ds (kvs.map (·.2)) → getD k ks ds = some d → ∃ v, valV kvs (Sum.inl k) = some v ∧ Rp C H d v
  | [], ds, kvs, d, _, _, e => by cases ds <;> cases e
  | j :: ks, [], kvs, d, _, _, e => by cases e
  | j :: ks, d0 :: ds, [], d, h, _, e => by cases h
  | j :: ks, d0 :: ds, (k0, v0) :: kvs, d, h, r, e => by
    simp only [List.map_cons, List.cons.injEq] at h r
    obtain ⟨h1, h2⟩ := h
    obtain ⟨x, t, e1, r1, r2⟩ := r.cons
    simp only [List.cons.injEq] at e1
    obtain ⟨rfl, e2⟩ := e1
    subst h1
    unfold getD at e
    by_cases z : j = k
    · rw [if_pos z] at e
      cases e
      subst z
      exact ⟨v0, valV_pos rfl, r1⟩
    · rw [if_neg z] at e
      rw [← e2] at r2
      obtain ⟨v, q1, q2⟩ := getD_val h2 r2 e
      refine ⟨v, ?_, q2⟩
      have ne : ¬ (Sum.inl j : Key) = Sum.inl k := fun q => z (Sum.inl.inj q)
      unfold valV at q1 ⊢
      rw [List.find?_cons, decide_eq_false ne]
      exact q1
theorem getD_none {C : Addr} {H : Hp} {k : Int} : ∀ {ks : List Int} {ds : List Dat} {kvs : List (Key × V)}, kvs.map (·.1) = ks.map Sum.inl → RpL C H ds (kvs.map (·.2)) → getD k ks ds = none → valV kvs (Sum.inl k) = none
  | [], ds, kvs, h, _, e => by
    cases kvs with
    | nil => rfl
    | cons _ _ => cases h
  | j :: ks, ds, [], h, _, e => by cases h
  | j :: ks, [], (k0, v0) :: kvs, h, r, e => by
    have := r.nil
    cases this
  | j :: ks, d0 :: ds, (k0, v0) :: kvs, h, r, e => by
    simp only [List.map_cons, List.cons.injEq] at h r
    obtain ⟨h1, h2⟩ := h
    obtain ⟨x, t, e1, r1, r2⟩ := r.cons
    simp only [List.cons.injEq] at e1
    obtain ⟨rfl, e2⟩ := e1
    subst h1
    unfold getD at e
    by_cases z : j = k
    · rw [if_pos z] at e; cases e
    · rw [if_neg z] at e
      rw [← e2] at r2
      have q1 := getD_none h2 r2 e
      have ne : ¬ (Sum.inl j : Key) = Sum.inl k := fun q => z (Sum.inl.inj q)
      unfold valV at q1 ⊢
      rw [List.find?_cons, decide_eq_false ne]
      exact q1
/-! the view d.keys() -/
def keysO (p d : Addr) : HO := .ext fun h => PySem.W.KdlKeysView h p d
theorem keysO_ok {P : Program} {w : World} {H : Hp} {h : Heap} {p d : Addr} (e : h.get? p = some { cls := .type "dict_keys", data := .fields #[.ref d] }) : ObjOk P w H h p (keysO p d) :=
  ⟨⟨_, e, rfl, rfl⟩, ⟨_, e⟩, fun h1 h2 x k => let ⟨o, ho, r⟩ := x; ⟨o, k o ho, r⟩⟩
def rKeysK : V → List V → Hp → VK → Prop := fun x xs H Q => ∃ (a : Addr) (kvs : List (Key × V)), x = .ref a ∧ xs = [] ∧ H a = some (.dK kvs) ∧ ∀ p, H p = none → Q (.ref p) (upd H p (keysO p a))
section
variable {X : Cx}
theorem mt_keysK : MtR X "dict.keys" rKeysK := by
  intro pins s σ H x xs v us Q I rx rxs h
  obtain ⟨a, kvs, rfl, rfl, ha, q⟩ := h
  cases rx
  cases rxs
  obtain ⟨z, hd, vs, rel, dd⟩ := dk_of I.hok ha
  refine call_meetsIn PySem.F.slot_dict_keys dd.typeIs PySem.F.entry_dict_keys (PySem.F.args_dict_keys_1 _) (PySem.W.kdl_meets_keys (mixKind X.prog X.w) a hd) ⟨⟨vs, dd⟩, ?_⟩
  have hf : H s.heap.objs.size = none := I.hok.fresh (Nat.le_refl _)
  exact ⟨.ref s.heap.objs.size, upd H s.heap.objs.size (keysO s.heap.objs.size a), I.laid (t' := s.toks) (fun b u e => Heap.get?_push_of_some _ e) (Nat.le_refl _) (keysO_ok (Heap.get?_push_size _ rfl)), rfl, q _ hf⟩
theorem call_listKeys (hcalm : X.calm = true) : CallR X (.type "list") (fun xs H Q => ∃ (v a : Addr) (kvs : List (Key × V)), xs = [.ref v] ∧ H v = some (keysO v a) ∧ Rd H a (.dK kvs) ∧ ∀ p, H p = none → Q (.ref p) (upd H p (.lst (kvs.map fun kv => kV kv.1)))) := by
  intro pins s σ H xs us Q I r q
  obtain ⟨v, a, kvs, ex, hv, hd, q⟩ := q
  subst ex
  obtain ⟨u, eu, rx⟩ := vals1 r
  subst eu
  cases rx
  obtain ⟨z, lo, vs, rel, dd⟩ := dk_rd I.hok hd
  obtain ⟨ep, hat⟩ := dd.dictAt
  have vw : PySem.W.KdlKeysView s.heap v a := (I.hok v _ hv).1
  have ek : (kvs.map fun kv => kV kv.1) = vs.map fun p => kV p.1 := by
    have e := congrArg (List.map kV) rel.keys
    rw [List.map_map, List.map_map] at e
    exact e
  refine PySem.W.kdl_call (PySem.W.kdl_keys (knd := mixKind X.prog X.w) (kvs := vs) (ep := ep)) (I.ok.hd hcalm) ⟨vw, hat⟩ (by rw [← rel.length]; exact z) fun h' tk acc c' hk hD hacc => ?_
  have hv : Vals (vs.map fun p => kV p.1) acc.toList := keys_at (by rw [Array.length_toList]; exact hacc.1) fun j v e => hacc.2 j v (by rw [← Array.getElem?_toList]; exact e)
  refine ⟨.ref s.heap.objs.size, upd H s.heap.objs.size (.lst (kvs.map fun kv => kV kv.1)), I.laid (t' := tk) hk (Nat.le_refl _)
    (show ObjOk X.prog X.w _ _ _ (.lst (kvs.map fun kv => kV kv.1)) from ⟨by rw [List.length_map]; exact z, acc.toList, c', by rw [ek]; exact hv, by rw [Array.toArray_toList]; exact hD⟩), rfl, q _ (I.hok.fresh (Nat.le_refl _))⟩
end
theorem keys_ints : ∀ {kvs : List (Key × V)} {ks : List Int}, kvs.map (·.1) = ks.map Sum.inl → (kvs.map fun kv => kV kv.1) = ks.map V.int
  | [], [], _ => rfl
  | [], _ :: _, h => by cases h
  | _ :: _, [], h => by cases h
  | (k, v) :: kvs, j :: ks, h => by
    simp only [List.map_cons, List.cons.injEq] at h
    obtain ⟨rfl, h2⟩ := h
    rw [List.map_cons, List.map_cons, keys_ints h2]
    rfl
def fKeysL (f : En → Option Dat) : En → Option (List Dat) := fun ρ => (f ρ).bind fun d => match d with
  | .dic ks _ => some (ks.map Dat.int)
  | _ => none
def dGetD : Dat → Dat → Dat → Option Dat
  | .dic ks ds, .int k, d => some ((getD k ks ds).getD d)
  | _, _, _ => none
def f3 (g : Dat → Dat → Dat → Option Dat) (a b c : En → Option Dat) : En → Option Dat := fun ρ => (a ρ).bind fun x => (b ρ).bind fun y => (c ρ).bind fun z => g x y z
def dDisp2 (k1 v1 k2 v2 : Dat) : Option Dat := match k1, k2 with
  | .int i, .int j => if i = j then none else some (.dic [i, j] [v1, v2])
  | _, _ => none
def fDisp2 (a b c d : En → Option Dat) : En → Option Dat := fun ρ => (a ρ).bind fun k1 => (b ρ).bind fun v1 => (c ρ).bind fun k2 => (d ρ).bind fun v2 => dDisp2 k1 v1 k2 v2
section
variable {C : Addr} {X : Cx} {K : PySem.W.Frag} {e o a b c d : Expr} {pos p apos cpos : Pos} {f fo fa fb fc fd : En → Option Dat} {ue uo ua ub uc ud : TE}
theorem se_ixD (hu : X.A.units + 64 < cLine) (ho : SE X C o uo fo) (ha : SE X C e ue f) (hs : NoSl e := by exact fun _ _ => rfl) : SE X C (.Subscript o e pos) (tDGet uo ue) (f2 dIxD fo f) := by
  refine ⟨pe_dget (by omega) ho.p ha.p hs, fun Hk H σ ρ d r e Q q => ?_⟩
  obtain ⟨x, e1, ea⟩ := Option.bind_eq_some_iff.mp (show (fo ρ).bind _ = some d from e)
  obtain ⟨y, e2, eb⟩ := Option.bind_eq_some_iff.mp ea
  clear e ea
  have e := eb
  clear eb
  unfold dIxD at e
  split at e
  · rename_i ks ds k
    refine ho.o Hk H σ ρ _ r e1 _ fun v Hk1 H1 n1 r1 => ?_
    refine ha.o Hk1 H1 σ ρ _ (r.nx n1) e2 _ fun v2 Hk2 H2 n2 r2 => ?_
    obtain ⟨a, kvs, rfl, h1, h2, h3⟩ := (r1.mono n2.kk).dic
    obtain ⟨w, q1, q2⟩ := getD_val h2 h3 e
    rw [r2.int]
    exact ⟨a, w, rfl, q1 ▸ DGet.k (k := Sum.inl k) (n2.kh _ _ h1), q w Hk2 H2 (n1.trans n2) q2⟩
  · cases e
theorem sl_listKeys (hc : X.calm = true) (hm : X.mg "list" = none) (ho : SE X C o uo fo) (hbase : attributeBase o "keys" X.env (eval o X.env) = eval o X.env := by rfl) (hline : (apos.endLine == cpos.line) = true := by rfl) (hg : Gl X "list" := by rfl)
    (hs : starEach [.Call (.Attribute o "keys" apos) [] [] cpos] X.env = [(false, eval (.Call (.Attribute o "keys" apos) [] [] cpos) X.env)] := by rfl) (hK : X.K = K := by rfl) :
    SL X C (.Call (.Name "list" p) [.Call (.Attribute o "keys" apos) [] [] cpos] [] pos) (tCB (fun xs H Q => ∃ (v a : Addr) (kvs : List (Key × V)), xs = [.ref v] ∧ H v = some (keysO v a) ∧ Rd H a (.dK kvs) ∧ ∀ p, H p = none → Q (.ref p) (upd H p (.lst (kvs.map fun kv => kV kv.1)))) (tCons (tBM0 K "dict" rKeysK uo) tNil)) (fKeysL fo) := by
  subst hK
  refine ⟨pe_callTy (call_listKeys hc) hg hm (by decide +kernel) (pa_cons (pe_bm0 PySem.F.plainAttrs_dict PySem.F.slot_dict_keys PySem.F.type_dict_keys mt_keysK ho.p hbase hline) pa_nil hs) (by decide) (by decide) hs rfl, fun Hk H σ ρ ds r e Q q => ?_⟩
  obtain ⟨x, e1, e⟩ := Option.bind_eq_some_iff.mp (show (fo ρ).bind _ = some ds from e)
  cases x <;> simp only [reduceCtorEq] at e
  cases e
  refine ho.o Hk H σ ρ _ r e1 _ fun v Hk1 H1 n1 r1 => ?_
  obtain ⟨a, kvs, rfl, h1, h2, h3⟩ := r1.dic
  have ha := n1.kh _ _ h1
  refine ⟨.inr (.inr (.inl ⟨rfl, .inl ⟨kvs, ha⟩⟩)), a, kvs, rfl, rfl, ha, fun v hv => ?_⟩
  have ne : a ≠ v := fun z => by subst z; rw [ha] at hv; cases hv
  refine ⟨v, a, kvs, rfl, upd_same, .inl (by rw [upd_ne ne]; exact ha), fun p hp => ?_⟩
  have nv : Nx Hk1 H1 Hk1 (upd H1 v (keysO v a)) := Nx.own n1.kh hv
  have np : Nx Hk1 (upd H1 v (keysO v a)) Hk1 (upd (upd H1 v (keysO v a)) p (.lst (kvs.map fun kv => kV kv.1))) := Nx.own nv.kh hp
  have h1p : H1 p = none := nv.hh.free hp
  refine q p _ Hk1 _ ((n1.trans nv).trans np) (n1.hh.free h1p) (n1.kh.free h1p) upd_same ?_
  rw [keys_ints h2]
  exact rpl_ints
theorem se_getD (hu : X.A.units + 64 < cLine) (ho : SE X C o uo fo) (ha : SE X C a ua fa) (hb : SE X C b ub fb) (m : M2 X o "get" apos a b cpos := by exact ⟨rfl, rfl, rfl, rfl⟩) :
    SE X C (.Call (.Attribute o "get" apos) [a, b] [] cpos) (tDGet2 uo ua ub) (f3 dGetD fo fa fb) := by
  refine ⟨pe_dget2 (by omega) ho.p ha.p hb.p m, fun Hk H σ ρ d r e Q q => ?_⟩
  obtain ⟨x, e1, ea⟩ := Option.bind_eq_some_iff.mp (show (fo ρ).bind _ = some d from e)
  obtain ⟨y, e2, eb⟩ := Option.bind_eq_some_iff.mp ea
  obtain ⟨z, e3, ec⟩ := Option.bind_eq_some_iff.mp eb
  clear e ea eb
  have e := ec
  clear ec
  unfold dGetD at e
  split at e
  · rename_i ks ds k
    cases e
    refine ho.o Hk H σ ρ _ r e1 _ fun v Hk1 H1 n1 r1 => ?_
    obtain ⟨a0, kvs, rfl, h1, h2, h3⟩ := r1.dic
    refine ⟨a0, rfl, .inl ⟨kvs, .inl (n1.kh _ _ h1)⟩, ha.o Hk1 H1 σ ρ _ (r.nx n1) e2 _ fun v2 Hk2 H2 n2 r2 => hb.o Hk2 H2 σ ρ _ ((r.nx n1).nx n2) e3 _ fun v3 Hk3 H3 n3 r3 => ?_⟩
    rw [r2.int]
    have n23 := n2.trans n3
    refine ⟨valV kvs (Sum.inl k), DGet.k (k := Sum.inl k) (n3.kh _ _ (n23.kk _ _ h1)), ?_⟩
    cases q1 : getD k ks ds with
    | none =>
      rw [getD_none h2 h3 q1]
      rw [q1] at q
      exact q v3 Hk3 H3 (n1.trans n23) r3
    | some d =>
      obtain ⟨w, w1, w2⟩ := getD_val h2 h3 q1
      rw [w1]
      rw [q1] at q
      exact q w Hk3 H3 (n1.trans n23) (w2.mono n23.kk)
  · cases e
theorem se_disp2 (ha : SE X C a ua fa) (hb : SE X C b ub fb) (hc : SE X C c uc fc) (hd : SE X C d ud fd) : SE X C (.Dict [some a, some c] [b, d] pos) (tDisp [(ua, ub), (uc, ud)]) (fDisp2 fa fb fc fd) := by
  refine ⟨pe_disp (pps_cons ha.p hb.p (pps_cons hc.p hd.p pps_nil)) rfl rfl (by simp) (by simp), fun Hk H σ ρ d r e Q q => fun p hp => ?_⟩
  obtain ⟨k1, e1, ea⟩ := Option.bind_eq_some_iff.mp (show (fa ρ).bind _ = some d from e)
  obtain ⟨v1, e2, eb⟩ := Option.bind_eq_some_iff.mp ea
  obtain ⟨k2, e3, ec⟩ := Option.bind_eq_some_iff.mp eb
  obtain ⟨v2, e4, ed⟩ := Option.bind_eq_some_iff.mp ec
  clear e ea eb ec
  have e := ed
  clear ed
  unfold dDisp2 at e
  split at e
  · rename_i i j
    split at e
    · cases e
    · rename_i ne
      cases e
      have n0 : Nx Hk H Hk (upd H p (.dK [])) := Nx.own r.kh hp
      refine ha.o Hk _ σ ρ _ (r.nx n0) e1 _ fun x1 Hk1 H1 n1 r1 => ?_
      refine hb.o Hk1 H1 σ ρ _ ((r.nx n0).nx n1) e2 _ fun y1 Hk2 H2 n2 r2 => ?_
      refine hc.o Hk2 H2 σ ρ _ (((r.nx n0).nx n1).nx n2) e3 _ fun x2 Hk3 H3 n3 r3 => ?_
      refine hd.o Hk3 H3 σ ρ _ ((((r.nx n0).nx n1).nx n2).nx n3) e4 _ fun y2 Hk4 H4 n4 r4 => ?_
      have n14 := ((n1.trans n2).trans n3).trans n4
      have hp4 : H4 p = some (.dK []) := n14.hh _ _ upd_same
      have kp4 : Hk4 p = none := n14.sp p (r.kh.free hp) (by rw [upd_same]; intro z; cases z)
      rw [r1.int, r3.int]
      refine ⟨hp4, [(.inl i, y1), (.inl j, y2)], rfl, (show 2 ≤ 15 by decide), ?_⟩
      have em : mergeK [] [((Sum.inl i : Key), y1), (Sum.inl j, y2)] = [(.inl i, y1), (.inl j, y2)] := by
        have ne' : ¬ ((Sum.inl i : Key) = Sum.inl j) := fun z => ne (Sum.inl.inj z)
        simp [mergeK, putK, ne']
      rw [em]
      refine q _ (upd Hk4 p (.dK [(.inl i, y1), (.inl j, y2)])) _ ⟨?_, ?_, upd_le n14.kh, ?_⟩ (rp_dic (kvs := [(.inl i, y1), (.inl j, y2)]) upd_same rfl ?_)
      · exact (n0.trans n14).kk.trans (Le.new kp4)
      · intro l o h
        have z : l ≠ p := fun z => by subst z; rw [hp] at h; cases h
        rw [upd_ne z]
        exact (n0.trans n14).hh _ _ h
      · intro l h1 h2
        have z : l ≠ p := fun z => h2 (by rw [z]; exact hp)
        rw [upd_ne z]
        exact (n0.trans n14).sp l h1 h2
      · have m : Le Hk4 (upd Hk4 p (.dK [(.inl i, y1), (.inl j, y2)])) := Le.new kp4
        exact rpl_cons (r2.mono (((n3.trans n4).kk).trans m)) (rpl_cons (r4.mono m) rpl_nil)
  · cases e
end
end L3
set_option maxHeartbeats 4000000
namespace L2
open PySem PySem.W PySem.Calls PyProof.Rows PyProof.V PySem.Spec
theorem reads_ints {h : Heap} : ∀ {vs : List Value} {k : List Int}, IntsAre vs k → ReadsAll h vs (k.map PyData.int) []
  | _, _, .nil => .nil
  | _, _, .cons n t r => ReadsAll.cons (as := []) (bs := []) (.int n t) (reads_ints r)
theorem reads_isT {P : Program} {w : World} {h : Heap} {k : List Int} {b : Addr} (x : IsT P w h k b) : Reads h (.ref b) (L3.ptup k) [] := by
  obtain ⟨o, items, n, ho, hc, hd, hi⟩ := x
  exact .tuple ho hc hd (reads_ints (ints_of_items hi))
section
variable {P : Program} {w : World} {A : Around} {E : Value → Shared → Prop} {s : Shared}
abbrev encA (q : Addr × List Int) : PyData := L3.ptup q.2
theorem asc_mergeA (bs : List (Addr × List Int)) : (bs.mergeSort (PySem.W.dataLe false encA)).Perm bs ∧ L3.Asc ((bs.mergeSort (PySem.W.dataLe false encA)).map (·.2)) := by
  have e : PySem.W.dataLe false encA = fun a b => !L3.llt b.2 a.2 := by
    rw [PySem.W.dataLe_eq]
    funext a b
    show (!PySem.W.dataLt (L3.ptup b.2) (L3.ptup a.2)) = _
    rw [L3.dataLt_tups]
  rw [e]
  refine ⟨List.mergeSort_perm .., ?_⟩
  have h := List.pairwise_mergeSort (le := fun (a b : Addr × List Int) => !L3.llt b.2 a.2) (fun a b c h1 h2 => by
    have h1' : L3.llt b.2 a.2 = false := by simpa using h1
    have h2' : L3.llt c.2 b.2 = false := by simpa using h2
    simpa using L3.llt_le_trans a.2 b.2 c.2 h1' h2') (fun a b => by
    cases q : L3.llt b.2 a.2 with
    | false => simp
    | true => simp [L3.llt_asymm q]) bs
  refine List.pairwise_map.mpr (h.imp fun {a b} h => by simpa using h)
theorem each_map' {R : Value → Addr × List Int → Prop} : ∀ {L : List (Addr × List Int)}, (∀ q ∈ L, R (.ref q.1) q) → EachIs R (L.map fun q => Value.ref q.1) L
  | [], _ => .nil
  | q :: L, h => .cons (h q (List.mem_cons_self ..)) (each_map' fun r hr => h r (List.mem_cons_of_mem _ hr))
theorem each_refs {out : List Value} {L : List (Addr × List Int)} (e : EachIs (fun v (q : Addr × List Int) => v = Value.ref q.1) out L) : out = L.map fun q => Value.ref q.1 := by
  induction e with
  | nil => rfl
  | cons r _ ih => rw [r, ih]; rfl
theorem sorted_setD {a : Addr} {L : List (Addr × List Int)} {es : Array (Int × Value)} {ep : Nat} {t : SetTable} {Q : Value → Shared → Prop} (R : SetTR P w s.heap a L es ep t) (hh : A.handled = none) (hu : A.units + 64 < cLine)
    (hne : ∀ p ∈ L, p.2 ≠ [])
    (hQ : ∀ s' p (out : Array Value) (c : Nat) (L' : List (Addr × List Int)), (∀ b o, s.heap.get? b = some o → s'.heap.get? b = some o) → s'.gens = s.gens → s'.os = s.os → s.heap.objs.size ≤ p →
      s'.heap.get? p = some (seqObj "list" out c) → out.toList = L'.map (fun q => Value.ref q.1) → L'.Perm L → L3.Asc (L'.map (·.2)) → Q (.ref p) s') :
    wpAny (model P w) A (call (.builtin "sorted") [.ref a]) Q E s := by
  obtain ⟨o, ho, hex, hd⟩ := R.ob
  have hsz := R.size
  have hfew := R.few
  refine Calls.call_function_entry kind_sorted plain_sorted entry_sorted (args_sorted1 _) ?_
  unfold Builtin.«sorted»
  refine wpAny_bind (m := checkCount "sorted" 1 1 _) (wpAny_pure ?_)
  refine wpAny_bind (collect_set (A := A.in1) hh ⟨o, ho, hex.1, hd⟩ R.fits (by unfold scanBound; omega) R.tab.ris R.led fun s1 vs k1 hz g1 o1 pm => ?_)
  have hes : es.toList.map (·.2) = L.map fun q => Value.ref q.1 := by
    rw [R.rows]
    unfold rowsOf
    rw [List.map_map] <;> rfl
  rw [hes] at pm
  -- the values are the addresses of the rows, in some order
  have ord : ∀ vs : List Value, (∀ v ∈ vs, ∃ q ∈ L, v = Value.ref q.1) → ∃ L1 : List (Addr × List Int), vs = L1.map (fun q => Value.ref q.1) ∧ ∀ q ∈ L1, q ∈ L := by
    intro vs
    induction vs with
    | nil => intro _; exact ⟨[], rfl, fun q hq => (by cases hq)⟩
    | cons v vs ih =>
      intro hv
      obtain ⟨q, hq, e⟩ := hv v List.mem_cons_self
      obtain ⟨L1, e1, hs⟩ := ih fun u hu => hv u (List.mem_cons_of_mem _ hu)
      refine ⟨q :: L1, by rw [List.map_cons, e, e1], fun r hr => ?_⟩
      rcases List.mem_cons.mp hr with z | z
      · rw [z]; exact hq
      · exact hs r z
  -- an address has one key
  have one : ∀ q ∈ L, ∀ r ∈ L, q.1 = r.1 → q = r := fun q hq r hr e => by
    have a1 := R.tup q hq
    have a2 := R.tup r hr
    rw [e] at a1
    have e2 : q.2 = r.2 := a1.inj a2
    exact Prod.ext e e2
  have perm_of : ∀ L1 : List (Addr × List Int), (∀ q ∈ L1, q ∈ L) → (L1.map (fun q => Value.ref q.1)).Perm (L.map fun q => Value.ref q.1) → L1.Perm L := by
    intro L1 hs pm1
    have nL : L.Nodup := nodup_of_map R.nd
    have nref : (L.map fun q => Value.ref q.1).Nodup := by
      refine List.pairwise_map.mpr (List.Pairwise.imp_of_mem (fun {q r} hq hr hne e => ?_) nL)
      injection e with e
      exact hne (one q hq r hr e)
    have n1 : L1.Nodup := nodup_of_map (pm1.nodup_iff.mpr nref)
    refine (List.perm_ext_iff_of_nodup n1 nL).mpr fun q => ⟨hs q, fun hq => ?_⟩
    have hm : Value.ref q.1 ∈ L1.map (fun q => Value.ref q.1) := pm1.mem_iff.mpr (List.mem_map.mpr ⟨q, hq, rfl⟩)
    obtain ⟨r, hr, e⟩ := List.mem_map.mp hm
    injection e with e
    rw [← one r (hs r hr) q hq e]
    exact hr
  have hvl : vs.length < 64 := by rw [pm.length_eq, List.length_map]; exact hfew
  refine wpAny_bind (wpAny_newList ?_ (by rw [sizeLine_eq]; omega))
  have hoL : (s1.heap.push (seqObj "list" vs.toArray 0)).get? s1.heap.objs.size = some (seqObj "list" vs.toArray 0) := Heap.get?_push_size _ rfl
  obtain ⟨L1, ev, hs1⟩ := ord vs fun v hv => by
    obtain ⟨q, hq, e⟩ := List.mem_map.mp (pm.mem_iff.mp hv)
    exact ⟨q, hq, e.symm⟩
  have pL1 : L1.Perm L := perm_of L1 hs1 (by rw [← ev]; exact pm)
  have l1 : L1.length = vs.length := by rw [ev, List.length_map]
  have tk : ∀ q ∈ L1, Reads (s1.heap.push (seqObj "list" vs.toArray 0)) (.ref q.1) (encA q) [] := fun q hq => reads_isT (P := P) (w := w) (isT_keep (R.tup q (hs1 q hq)) fun b u e => Heap.get?_push_of_some _ (k1 b u e))
  have e1 : EachIs (fun v (q : Addr × List Int) => v = Value.ref q.1) vs L1 := by rw [ev]; exact each_map' fun q _ => rfl
  have e2 : EachIs (fun v q => ∃ as, Reads (s1.heap.push (seqObj "list" vs.toArray 0)) v (encA q) as ∧ s1.heap.objs.size ∉ as) vs L1 := by
    rw [ev]
    exact each_map' fun q hq => ⟨[], by rw [← ev]; exact tk q hq, by simp⟩
  have hal : AllAlike (L1.map encA) := AllAlike.of fun b b' => by
    unfold encA L3.ptup
    simp only [PySem.W.alike]
    exact L3.alike_ints _ _
  have hsort : Sortable (L1.map encA) := .inl fun d hd => by
    obtain ⟨b, hb, rfl⟩ := List.mem_map.mp hd
    have := hne b (hs1 b hb)
    cases q : b.2 with
    | nil => exact absurd q this
    | cons n r => exact ⟨.int n, r.map .int, by unfold encA L3.ptup; rw [q]; rfl⟩
  refine wpAny_bind (wpAny_holding (list_sort_data (s := { s1 with heap := s1.heap.push (seqObj "list" vs.toArray 0) }) (enc := encA) hoL e1 e2 hal hsort (by rw [l1, sizeLine_eq]; omega) (fun b _ => ?_) fun out hlen eo => ?_))
  · have : (encA b).depth ≤ 1 := by
      unfold encA L3.ptup
      simp only [PyData.depth, L3.depth_ints]
      decide
    show A.units + 1 + 1 + _ < _
    omega
  obtain ⟨c, hc⟩ := sortedHeap_at (vs := vs) (out := List.toArray out) hoL
  obtain ⟨pm2, asc⟩ := asc_mergeA L1
  refine wpAny_pure ⟨_, rfl, hQ _ s1.heap.objs.size (List.toArray out) c _ (fun b u e => ?_) g1 o1 hz hc (by simpa using each_refs eo) (pm2.trans pL1) asc⟩
  have q := k1 b u e
  have hlt := Heap.lt_size q
  show (sortedHeap (s1.heap.push (seqObj "list" vs.toArray 0)) s1.heap.objs.size vs (List.toArray out)).get? b = some u
  rw [sortedHeap_old (Nat.ne_of_lt hlt) (by rw [size_push']; exact Nat.lt_succ_of_lt hlt)]
  exact Heap.get?_push_of_some _ q
end
def rSortedSD (K : PySem.W.Frag) (P : Program) (w : World) : List V → Hp → VK → Prop := fun vs H Q => ∃ (a : Addr) (L : List (Addr × List Int)), vs = [V.ref a] ∧ H a = some (SetTO P w a L) ∧ (∀ p ∈ L, SqT K H p.1 (p.2.map V.int)) ∧ (∀ p ∈ L, p.2 ≠ []) ∧
  ∀ (L' : List (Addr × List Int)) (p : Addr), L'.Perm L → (L'.map (·.2)).Nodup → L3.Asc (L'.map (·.2)) → H p = none → Q (.ref p) (upd H p (.lst (L'.map fun q => V.ref q.1)))
theorem cr_sortedSD {X : Cx} (hc : X.calm = true) (hu : X.A.units + 64 < cLine) : CallR X (.builtin "sorted") (rSortedSD X.K X.prog X.w) := by
  intro pins s σ H vs us Q I r h
  obtain ⟨a, L, rfl, ha, hk, hne, q⟩ := h
  have R0 : SetT0 X.prog X.w s.heap a L := (I.hok a _ ha).1
  obtain ⟨es, ep, t, R⟩ := R0.full fun p hp => I.isT (hk p hp)
  rw [Vals.ref1 r]
  refine sorted_setD R (I.ok.hd hc) hu hne fun s' p out c L' k g o hp hg hout pm pw => ?_
  have hfew : L'.length < 64 := by rw [pm.length_eq]; exact R.few
  have hlen : (L'.map fun q => V.ref q.1).length ≤ sizeLine := by rw [List.length_map, sizeLine_eq]; omega
  have hn : H p = none := I.hok.fresh hp
  have hv : Vals (L'.map fun q => V.ref q.1) out.toList := by rw [hout]; exact vals_of_refs L'
  have J : Inv X pins σ (upd H p (.lst (L'.map fun q => V.ref q.1))) { s with heap := s'.heap, gens := s'.gens, drawn := s'.drawn, toks := s'.toks } :=
    I.call (ch := []) (Un.laid k hp hn) (I.hok.laid k hp ⟨hlen, out.toList, c, hv, hg⟩) (by rw [g]; exact I.bare) (fun _ z => nomatch z)
  have e : s' = { s with heap := s'.heap, gens := s'.gens, drawn := s'.drawn, toks := s'.toks } := by
    cases s'
    cases s
    cases o
    rfl
  rw [e]
  exact ⟨.ref p, _, J, rfl, q L' p pm ((pm.map (·.2)).nodup_iff.mpr R.nd) pw hn⟩
end L2
namespace L3
open PySem L2 RZ
def dedupT : List (List Int) → List (List Int)
  | [] => []
  | t :: ts => if t ∈ ts then dedupT ts else t :: dedupT ts
theorem dedupT_mem : ∀ {ts : List (List Int)} {t : List Int}, t ∈ dedupT ts ↔ t ∈ ts
  | [], t => Iff.rfl
  | u :: ts, t => by
    unfold dedupT
    split
    · rename_i h
      rw [dedupT_mem, List.mem_cons]
      exact ⟨.inr, fun q => q.elim (fun e => e ▸ h) id⟩
    · rw [List.mem_cons, List.mem_cons, dedupT_mem]
theorem dedupT_nodup : ∀ ts : List (List Int), (dedupT ts).Nodup
  | [] => .nil
  | t :: ts => by
    unfold dedupT
    split
    · exact dedupT_nodup ts
    · rename_i h
      exact List.nodup_cons.mpr ⟨fun q => h (dedupT_mem.mp q), dedupT_nodup ts⟩
def dSortSet (ds : List Dat) : Option Dat := (tupsOf ds).bind fun ts => if ts.length < 64 && ts.all (fun t => !t.isEmpty) then some (.lst ((sortT (dedupT ts)).map tupI)) else none
theorem refs_of_tups {C : Addr} {Hk H : Hp} {K : PySem.W.Frag} (l : Le Hk H) : ∀ {ts : List (List Int)} {xs : List V}, RpL C Hk (ts.map tupI) xs → ∃ ks : List (Addr × List Int), xs = ks.map (fun p => V.ref p.1) ∧ ks.map (·.2) = ts ∧ ∀ p ∈ ks, SqT K H p.1 (p.2.map V.int) ∧ Hk p.1 = some (.tup (p.2.map V.int))
  | [], xs, r => ⟨[], r.nil, rfl, fun _ h => nomatch h⟩
  | t :: ts, xs, r => by
    obtain ⟨x, rest, rfl, h1, h2⟩ := r.cons
    obtain ⟨ks, e1, e2, h3⟩ := refs_of_tups (K := K) l h2
    obtain ⟨a, ys, rfl, q1, q2⟩ := (show Rp C Hk (.tup (t.map Dat.int)) x from h1).tup
    rw [q2.ints] at q1
    refine ⟨(a, t) :: ks, by rw [e1]; rfl, by rw [List.map_cons, e2], fun p hp => ?_⟩
    rcases List.mem_cons.mp hp with z | z
    · rw [z]; exact ⟨SqT.of (l _ _ q1), q1⟩
    · exact h3 p z
section
variable {C : Addr} {X : Cx} {K : PySem.W.Frag} {P : Program} {w : World} {e : Expr} {pos p p2 pos2 : Pos} {la : En → Option (List Dat)} {ue : TE}
theorem se_sortSetK (hc : X.calm = true) (hm : X.mg "sorted" = none) (hm2 : X.mg "set" = none) (hu : X.A.units + 64 < cLine) (ha : SW X C e ue la) (hg : Gl X "sorted" := by rfl) (hg2 : Gl X "set" := by rfl) (he : starEach [e] X.env = [(false, eval e X.env)] := by rfl)
    (he2 : starEach [.Call (.Name "set" p2) [e] [] pos2] X.env = [(false, eval (.Call (.Name "set" p2) [e] [] pos2) X.env)] := by rfl) (hK : X.K = K := by rfl) (hP : X.prog = P := by rfl) (hw : X.w = w := by rfl) :
    SE X C (.Call (.Name "sorted" p) [.Call (.Name "set" p2) [e] [] pos2] [] pos) (tCB (rSortedSD K P w) (tCons (tCB (rSetOfT K P w) (tCons ue tNil)) tNil)) (fC dSortSet la) := by
  subst hK hP hw
  refine ⟨pe_callB (cr_sortedSD hc hu) hg hm (by decide +kernel) (pa_cons (pe_callTy (cr_setOfT hc hu) hg2 hm2 (by decide +kernel) (pa_cons ha.p pa_nil he) (by decide) (by decide) he rfl) pa_nil he2) (by decide) (by decide) he2 rfl, fun Hk H σ ρ d r ee Q q => ?_⟩
  unfold fC at ee
  obtain ⟨ds, e1, ee⟩ := Option.bind_eq_some_iff.mp ee
  unfold dSortSet at ee
  obtain ⟨ts, e2, ee⟩ := Option.bind_eq_some_iff.mp ee
  split at ee
  · rename_i hz
    cases ee
    rw [Bool.and_eq_true] at hz
    have hz1 : ts.length < 64 := by simpa using hz.1
    refine ha.o Hk H σ ρ ds r e1 _ fun l xs Hk1 H1 n1 h1 r1 => ?_
    rw [tupsOf_map e2] at r1
    obtain ⟨ks, k1, k2, k3⟩ := refs_of_tups (K := X.K) n1.kh r1
    refine ⟨l, ks, rfl, by rw [← k1]; exact SqL.of h1, fun p hp => (k3 p hp).1, by rw [← k2, List.length_map] at hz1; exact hz1, fun a L hn hL1 hL2 => ?_⟩
    have n2 : Nx Hk1 H1 Hk1 (upd H1 a (SetTO X.prog X.w a L)) := Nx.own n1.kh hn
    refine ⟨a, L, rfl, upd_same, fun p hp => ?_, fun p hp z => ?_, fun L' b pm nd asc hb => ?_⟩
    · exact SqT.of (n2.kh _ _ (k3 p (hL1 p hp)).2)
    · have : p.2 ∈ ts := by rw [← k2]; exact List.mem_map.mpr ⟨p, hL1 p hp, rfl⟩
      have := List.all_eq_true.mp hz.2 _ this
      rw [z] at this
      cases this
    · have es : L'.map (·.2) = sortT (dedupT ts) := by
        refine sortT_of ?_ asc
        refine (List.perm_ext_iff_of_nodup nd (dedupT_nodup ts)).mpr fun t => ?_
        rw [dedupT_mem, ← k2]
        refine ⟨fun h => ?_, fun h => ?_⟩
        · obtain ⟨p, hp, rfl⟩ := List.mem_map.mp h
          exact List.mem_map.mpr ⟨p, hL1 p (pm.mem_iff.mp hp), rfl⟩
        · obtain ⟨p, hp, rfl⟩ := List.mem_map.mp h
          obtain ⟨p', hp', e'⟩ := List.mem_map.mp (hL2 p hp)
          exact List.mem_map.mpr ⟨p', pm.mem_iff.mpr hp', e'⟩
      have n3 : Nx Hk1 (upd H1 a (SetTO X.prog X.w a L)) (upd Hk1 b (.lst (L'.map fun q => V.ref q.1))) (upd (upd H1 a (SetTO X.prog X.w a L)) b (.lst (L'.map fun q => V.ref q.1))) := Nx.new n2.kh hb
      refine q _ _ _ ((n1.trans n2).trans n3) (rp_lst upd_same ?_)
      rw [← es]
      have all : ∀ {M : List (Addr × List Int)}, (∀ p ∈ M, p ∈ ks) → RpL C (upd Hk1 b (.lst (L'.map fun q => V.ref q.1))) ((M.map (·.2)).map tupI) (M.map fun q => V.ref q.1) := by
        intro M
        induction M with
        | nil => intro _; exact rpl_nil
        | cons p M ih =>
          intro h
          exact rpl_cons (rp_tup (n3.kk _ _ (k3 p (h p (List.mem_cons_self ..))).2) rpl_ints) (ih fun q hq => h q (List.mem_cons_of_mem _ hq))
      exact all fun p hp => hL1 p (pm.mem_iff.mp hp)
  · cases ee
end
/-! ### an owned list is owned no more -/
theorem Rel.frz {C : Addr} {Hk H : Hp} {σ : L2.St} {ρ : En} {i : Nat} {ds : List Dat} (r : Rel C Hk H σ ρ) (hi : ρ[i]? = some (.ow ds)) : ∃ Hk', Ns Hk H σ ρ Hk' H σ (ρ.set i (.fz (.lst ds))) ∧ Rel C Hk' H σ (ρ.set i (.fz (.lst ds))) := by
  obtain ⟨l, xs, h1, h2, h3, h4⟩ := r.ow i ds hi
  have hl : i < ρ.length := (List.getElem?_eq_some_iff.mp hi).1
  have kk : Le Hk (upd Hk l (.lst xs)) := Le.new h2
  have kh : Le (upd Hk l (.lst xs)) H := fun a o e => by
    by_cases z : a = l
    · subst z; rw [upd_same] at e; rw [h3]; exact e
    · rw [upd_ne z] at e; exact r.kh _ _ e
  have ow : ∀ l', Own σ (ρ.set i (.fz (.lst ds))) l' → Own σ ρ l' ∧ l' ≠ l := fun l' ⟨j, es, hj, hs⟩ => by
    have nj : i ≠ j := fun z => by subst z; rw [List.getElem?_set_self hl] at hj; cases hj
    rw [List.getElem?_set_ne nj] at hj
    refine ⟨⟨j, es, hj, hs⟩, fun z => nj ?_⟩
    subst z
    exact r.ds i j l' ds es hi hj h1 hs
  refine ⟨upd Hk l (.lst xs), ⟨kk, kh, fun l' o e _ => e, fun l' e _ n => ?_, fun l' o => .inl (ow l' o).1⟩, ⟨kh, by rw [List.length_set]; exact r.len, fun j d hj => ?_, fun j es hj => ?_, fun j k l' a b hj hk => ?_⟩⟩
  · have z : l' ≠ l := fun z => n (by rw [z]; exact ⟨i, ds, hi, h1⟩)
    rw [upd_ne z]; exact e
  · by_cases z : i = j
    · subst z
      rw [List.getElem?_set_self hl] at hj
      cases hj
      exact ⟨.ref l, h1, rp_lst upd_same (h4.mono kk)⟩
    · rw [List.getElem?_set_ne z] at hj
      obtain ⟨v, q1, q2⟩ := r.fz j d hj
      exact ⟨v, q1, q2.mono kk⟩
  · have nj : i ≠ j := fun z => by subst z; rw [List.getElem?_set_self hl] at hj; cases hj
    rw [List.getElem?_set_ne nj] at hj
    obtain ⟨l', ys, q1, q2, q3, q4⟩ := r.ow j es hj
    have ne : l' ≠ l := fun z => nj (by subst z; exact r.ds i j l' ds es hi hj h1 q1)
    exact ⟨l', ys, q1, by rw [upd_ne ne]; exact q2, q3, q4.mono kk⟩
  · have nj : i ≠ j := fun z => by subst z; rw [List.getElem?_set_self hl] at hj; cases hj
    have nk : i ≠ k := fun z => by subst z; rw [List.getElem?_set_self hl] at hk; cases hk
    rw [List.getElem?_set_ne nj] at hj
    rw [List.getElem?_set_ne nk] at hk
    exact r.ds j k l' a b hj hk
def sFrz (i : Nat) (s : En → Option Fl) : En → Option Fl := fun ρ => (fO i ρ).bind fun ds => s (ρ.set i (.fz (.lst ds)))
theorem sss_frz {C : Addr} {X : Cx} {sts : List Stmt} {t : TS} {s : En → Option Fl} (i : Nat) (h : SSs X C sts t s) : SSs X C sts t (sFrz i s) := by
  refine ⟨h.p, fun Hk H σ ρ r rl e D hn hr => ?_⟩
  obtain ⟨ds, e1, e⟩ := Option.bind_eq_some_iff.mp (show (fO i ρ).bind _ = some r from e)
  obtain ⟨Hk1, n1, r1⟩ := rl.frz (fO_some e1)
  exact h.o Hk1 H σ _ r r1 e D (fun ρ' z σ' Hk' H' ns rl' => hn ρ' z σ' Hk' H' (n1.trans ns) rl') (fun dv z v Hk' H' nr rv => hr dv z v Hk' H' (n1.nr nr) rv)
end L3
set_option maxHeartbeats 4000000
namespace PySem
open Sem (wp)
/-- what key= needs, told of the best so far: J before the first; N j kb: the best is the j-th, its key kb; M j kj i ki: the i-th's key ki is there too -/
structure KeyRun2 (prog : Program) (w : World) (A : Around) (q : Value) (S : Addr) (wr : List Addr) (G : Array GenState → Array GenState → Prop) (n : Nat) (P : Nat → Value → Prop) (St : Nat → Shared → Prop) (J : Shared → Prop) (N : Nat → Value → Shared → Prop) (M : Nat → Value → Nat → Value → Shared → Prop) (bt : Nat → Nat → Bool) : Prop where
  keepJ : ∀ s s', J s → Moved (S :: wr) G s s' → J s'
  keepN : ∀ j kb s s', N j kb s → Moved (S :: wr) G s s' → N j kb s'
  first : ∀ v (s : Shared) (o : Obj) (Q : Value → Shared → Prop) (E : Value → Shared → Prop), P 0 v → J s → St 1 s → s.heap.get? S = some o → (∀ v, o.data ≠ .cell v) →
    (∀ k s', St 1 s' → s'.heap.get? S = some o → N 0 k s' → Q k s') → wpAny (model prog w) A (call q [v]) Q E s
  turn : ∀ i j v kb (s : Shared) (o : Obj) (Q : Value → Shared → Prop) (E : Value → Shared → Prop), i < n → P i v → N j kb s → St (i + 1) s → s.heap.get? S = some o → (∀ v, o.data ≠ .cell v) →
    (∀ k s', St (i + 1) s' → s'.heap.get? S = some o → M j kb i k s' → Q k s') → wpAny (model prog w) A (call q [v]) Q E s
  cmp : ∀ i j ki kj (s : Shared) (Q : Value → Shared → Prop) (E : Value → Shared → Prop), M j kj i ki s → Q (.bool (bt i j)) s → wpAny (model prog w) A (richCompare .Lt ki kj) Q E s
  left : ∀ i j ki kj s, M j kj i ki s → N j kj s
  right : ∀ i j ki kj s, M j kj i ki s → N i ki s
  fin : ∀ j kb s, N j kb s → J s
section
variable {prog : Program} {w : World} {A : Around} {R : Result → Shared → Prop} {I : Addr} {fp wr : List Addr} {G : Array GenState → Array GenState → Prop} {n : Nat} {P : Nat → Value → Prop} {St : Nat → Shared → Prop} {J : Shared → Prop} {N : Nat → Value → Shared → Prop} {M : Nat → Value → Nat → Value → Shared → Prop} {bt : Nat → Nat → Bool} {q : Addr}
theorem codeAny_min_loop2 (W : WalksS prog w A.in1 I fp wr G n P St) (S : Addr) (hSf : S ∉ fp) (K : KeyRun2 prog w A.in1 (.ref q) S wr G n P St J N M bt) (kw : List (Str × Value)) :
    ∀ (k j : Nat) (s : Shared) (vb kb : Value) (c : Nat), n - (j + 1) = k → j + 1 ≤ n → St (j + 1) s → P (argBest bt j) vb → N (argBest bt j) kb s →
    s.heap.get? S = some { cls := .type "list", dict := none, data := .seq #[vb, kb] c, slots := #[] } →
    (∀ v s', P (argBest bt (n - 1)) v → J s' → R (.ok (.ret v)) s') → codeAny (model prog w) A (.builtin "min.loop" ⟨[.ref I, (.ref q), .ref S], kw⟩) R s := by
  have hSw : S ∉ wr := fun h => hSf (W.sub _ h)
  have hsub : ∀ b ∈ wr, b ∈ S :: wr := fun b hb => List.mem_cons_of_mem _ hb
  have hname : (toString "min" ++ toString ".loop" : String) = "min.loop" := by decide
  have notS : ∀ {b : Addr}, b ∉ S :: wr → S ≠ b := fun hb h => hb (by rw [h]; exact List.mem_cons_self)
  intro k
  induction k with
  | zero =>
    intro j s vb kb c hk hj hst hPb hVb hS hR
    have hin : j + 1 = n := by omega
    refine codeAny_builtin F.entry_min_loop ?_
    rw [Around.under_plainId F.plain_min_loop _]
    show wpAny _ A.in1 (seqItems? (.ref S) >>= _) _ _ s
    refine wpAny_bind (wpAny_seqItems hS rfl ?_)
    show wpAny _ A.in1 (tryCatch (pyNext (.ref I)) _ >>= _) _ _ s
    refine wpAny_bind (wpAny_tryCatch (W.done s _ _ (hin ▸ hst) fun s' hm => ?_))
    have hS' := hm.heap S _ hSw hS
    show wpAny _ A.in1 (updateSeq S (fun _ => #[]) >>= _) _ _ _
    refine wpAny_bind ?_
    refine wpAny_updateSeq hS' rfl (wpAny_bind (wpAny_letGo (wpAny_pure ?_)))
    exact hR vb _ (by rw [← hin]; exact hPb) (K.keepJ _ _ (K.fin _ _ _ hVb) ((hm.mono hsub).then_heap (tk := s'.toks) (Nat.le_refl _) fun b o hb e => (Heap.get?_update_other _ _ (notS hb)).trans e))
  | succ k ih =>
    intro j s vb kb c hk hj hst hPb hVb hS hR
    have hlt : j + 1 < n := by omega
    refine codeAny_builtin F.entry_min_loop ?_
    rw [Around.under_plainId F.plain_min_loop _]
    show wpAny _ A.in1 (seqItems? (.ref S) >>= _) _ _ s
    refine wpAny_bind (wpAny_seqItems hS rfl ?_)
    show wpAny _ A.in1 (tryCatch (pyNext (.ref I)) _ >>= _) _ _ s
    refine wpAny_bind (wpAny_tryCatch (W.item (j + 1) s _ _ hlt hst fun v s' hP hst' hm => ?_))
    have hS' := hm.heap S _ hSw hS
    have hV' := K.keepN _ _ _ _ hVb (hm.mono hsub)
    show wpAny _ A.in1 (tryCatch (holding [v] (call (.ref q) [v])) _ >>= _) _ _ _
    refine wpAny_bind (wpAny_tryCatch (wpAny_holding (K.turn (j + 1) (argBest bt j) v kb s' _ _ _ hlt hP hV' hst' hS' (fun _ z => nomatch z) fun kx s'' hst2 hS2 hM => ?_)))
    show wpAny _ A.in1 (tryCatch (holding [v, kx] (richCompare .Lt kx kb >>= _)) _ >>= _) _ _ _
    refine wpAny_bind (wpAny_tryCatch (wpAny_holding (wpAny_bind (K.cmp (j + 1) (argBest bt j) kx kb s'' _ _ hM ?_))))
    refine wpAny_bind (wpAny_holding (wpAny_truthy_bool ?_))
    refine wpAny_bind (wpAny_letGo (wpAny_pure ?_))
    cases hb : bt (j + 1) (argBest bt j) with
    | true =>
      simp only [if_true]
      refine wpAny_bind ?_
      refine wpAny_updateSeq hS2 rfl (wpAny_bind (wpAny_letGo ?_))
      rw [hname]
      have hm2 : Moved (S :: wr) G s'' { s'' with heap := s''.heap.update S (Obj.mapSeq fun _ => #[v, kx]), toks := s''.toks } := (Moved.refl W.grefl).then_heap (tk := s''.toks) (Nat.le_refl _) fun b o hb e => (Heap.get?_update_other _ _ (notS hb)).trans e
      refine wpAny_pure ⟨plainId_quiet F.plain_min_loop _, ih (j + 1) _ v kx _ (by omega) hlt (W.frame _ s'' _ s''.toks hst2 (Nat.le_refl _) fun b hbf o e => ?_) (by simp only [argBest, hb, if_true]; exact hP) (by simp only [argBest, hb, if_true]; exact K.keepN _ _ _ _ (K.right _ _ _ _ _ hM) hm2) (Heap.get?_update_self _ hS2 rfl) hR⟩
      exact (Heap.get?_update_other _ _ (fun h : S = b => hSf (by rw [h]; exact hbf))).trans e
    | false =>
      simp only [Bool.false_eq_true, if_false]
      refine wpAny_bind (wpAny_letGo ?_)
      rw [hname]
      exact wpAny_pure ⟨plainId_quiet F.plain_min_loop _, ih (j + 1) _ vb kb c (by omega) hlt hst2 (by simp only [argBest, hb, Bool.false_eq_true, if_false]; exact hPb) (by simp only [argBest, hb, Bool.false_eq_true, if_false]; exact K.left _ _ _ _ _ hM) hS2 hR⟩
theorem codeAny_min_loop_first2 (W : WalksS prog w A.in1 I fp wr G n P St) (S : Addr) (hSf : S ∉ fp) (K : KeyRun2 prog w A.in1 (.ref q) S wr G n P St J N M bt) (kw : List (Str × Value)) (hn : 0 < n) {s : Shared} {c : Nat} (hJ : J s) (hst : St 0 s)
    (hS : s.heap.get? S = some { cls := .type "list", dict := none, data := .seq #[] c, slots := #[] })
    (hR : ∀ v s', P (argBest bt (n - 1)) v → J s' → R (.ok (.ret v)) s') : codeAny (model prog w) A (.builtin "min.loop" ⟨[.ref I, (.ref q), .ref S], kw⟩) R s := by
  have hSw : S ∉ wr := fun h => hSf (W.sub _ h)
  have hsub : ∀ b ∈ wr, b ∈ S :: wr := fun b hb => List.mem_cons_of_mem _ hb
  have hname : (toString "min" ++ toString ".loop" : String) = "min.loop" := by decide
  have notS : ∀ {b : Addr}, b ∉ S :: wr → S ≠ b := fun hb h => hb (by rw [h]; exact List.mem_cons_self)
  refine codeAny_builtin F.entry_min_loop ?_
  rw [Around.under_plainId F.plain_min_loop _]
  show wpAny _ A.in1 (seqItems? (.ref S) >>= _) _ _ s
  refine wpAny_bind (wpAny_seqItems hS rfl ?_)
  show wpAny _ A.in1 (tryCatch (pyNext (.ref I)) _ >>= _) _ _ s
  refine wpAny_bind (wpAny_tryCatch (W.item 0 s _ _ hn hst fun v s' hP hst' hm => ?_))
  have hS' := hm.heap S _ hSw hS
  have hJ' := K.keepJ _ _ hJ (hm.mono hsub)
  show wpAny _ A.in1 (tryCatch (holding [v] (call (.ref q) [v])) _ >>= _) _ _ _
  refine wpAny_bind (wpAny_tryCatch (wpAny_holding (K.first v s' _ _ _ hP hJ' hst' hS' (fun _ z => nomatch z) fun kx s'' hst2 hS2 hVx => ?_)))
  show wpAny _ A.in1 (updateSeq S (fun _ => #[v, kx]) >>= _) _ _ _
  refine wpAny_bind ?_
  refine wpAny_updateSeq hS2 rfl ?_
  rw [hname]
  have hm2 : Moved (S :: wr) G s'' { s'' with heap := s''.heap.update S (Obj.mapSeq fun _ => #[v, kx]), toks := s''.toks } := (Moved.refl W.grefl).then_heap (tk := s''.toks) (Nat.le_refl _) fun b o hb e => (Heap.get?_update_other _ _ (notS hb)).trans e
  refine wpAny_pure ⟨plainId_quiet F.plain_min_loop _, codeAny_min_loop2 W S hSf K kw _ 0 _ v kx _ rfl hn (W.frame _ s'' _ s''.toks hst2 (Nat.le_refl _) fun b hbf o e => ?_) hP (K.keepN _ _ _ _ hVx hm2) (Heap.get?_update_self _ hS2 rfl) hR⟩
  exact (Heap.get?_update_other _ _ (fun h : S = b => hSf (by rw [h]; exact hbf))).trans e
end
section
variable {prog : Program} {w : World} {A : Around} {E : Value → Shared → Prop} {s : Shared}
theorem call_min_walk2 {x : Value} {q : Addr} {Q : Value → Shared → Prop}
    (h : wpAny (model prog w) A.in1 (pyIter x) (fun it s₂ => ∃ I fp wr G n P St J N M bt, it = .ref I ∧ WalksS prog w A.in1 I fp wr G n P St ∧ St 0 s₂ ∧ (∀ b ∈ fp, b < s₂.heap.objs.size) ∧ 0 < n ∧
      KeyRun2 prog w A.in1 (.ref q) s₂.heap.objs.size wr G n P St J N M bt ∧ J s₂ ∧ ∀ v s', P (argBest bt (n - 1)) v → J s' → Q v s') E s) :
    wpAny (model prog w) A (call (.builtin "min") [x] [(Str.ofString "key", .ref q)]) Q E s := by
  have hname : (toString "min" ++ toString ".loop" : String) = "min.loop" := by decide
  refine PyProof.Rows.kmk_tree F.kind_min F.plain_min F.entry_min (PyProof.Rows.kmk_min_key _ _) ?_
  show wpAny _ A.in1 (Builtin.Builtins.bindParams "min" ["key", "default"] 0 ⟨[], [(Str.ofString "key", .ref q)]⟩ >>= _) _ _ s
  refine wpAny_bind (wpAny_of_eq (show Builtin.Builtins.bindParams "min" ["key", "default"] 0 ⟨[], [(Str.ofString "key", .ref q)]⟩ = pure [some (.ref q), none] from rfl) ?_)
  refine wpAny_bind (wpAny_pure ?_)
  refine wpAny_bind (wpAny_mono h (fun it s₂ h₂ => ?_) fun _ _ e => e)
  obtain ⟨I, fp, wr, G, n, P, St, J, N, M, bt, rfl, W, hst, hfp, hn, K, hJ, hQ⟩ := h₂
  refine wpAny_bind (wpAny_newObj_type ?_)
  have hSf : s₂.heap.objs.size ∉ fp := fun hm => Nat.lt_irrefl _ (hfp _ hm)
  rw [hname]
  have hm0 : Moved (s₂.heap.objs.size :: wr) G s₂ { s₂ with heap := s₂.heap.push { cls := .type "list", data := .seq #[] 0 }, toks := s₂.toks } := (Moved.refl W.grefl).then_heap (tk := s₂.toks) (Nat.le_refl _) fun b o _ e => Heap.get?_push_of_some _ e
  have hst' := W.frame 0 s₂ (s₂.heap.push { cls := .type "list", data := .seq #[] 0 }) s₂.toks hst (Nat.le_refl _) fun b _ o e => Heap.get?_push_of_some _ e
  exact wpAny_pure ⟨plainId_quiet F.plain_min_loop _, codeAny_min_loop_first2 W s₂.heap.objs.size hSf K _ hn (K.keepJ _ _ hJ hm0) hst' (Heap.get?_push_size _ rfl) hQ⟩
end
end PySem
namespace L3
open PySem L2 RZ
/-! ### min(list of tuples of ints, key=a def) -/
def bestI (ks : List (List Int)) : Nat := argBest (fun i j => llt (ks.getD i []) (ks.getD j [])) (ks.length - 1)
def keysOf (F : List Dat → Option Dat) : List Dat → Option (List (List Int))
  | [] => some []
  | d :: ds => (F [d]).bind fun k => (tupOfI k).bind fun t => (keysOf F ds).bind fun ts => some (t :: ts)
theorem keysOf_get {F : List Dat → Option Dat} : ∀ {ds : List Dat} {ks : List (List Int)} {i : Nat} {d : Dat}, keysOf F ds = some ks → ds[i]? = some d → ∃ t, ks[i]? = some t ∧ F [d] = some (tupI t)
  | [], _, _, _, _, h => by simp at h
  | d0 :: ds, ks, i, d, e, h => by
    unfold keysOf at e
    obtain ⟨k, e1, e⟩ := Option.bind_eq_some_iff.mp e
    obtain ⟨t, e2, e⟩ := Option.bind_eq_some_iff.mp e
    obtain ⟨ts, e3, e⟩ := Option.bind_eq_some_iff.mp e
    cases e
    cases i with
    | zero =>
      simp at h; subst h
      exact ⟨t, rfl, by rw [e1, tupOfI_map e2]⟩
    | succ i =>
      obtain ⟨u, h1, h2⟩ := keysOf_get e3 (show ds[i]? = some d by simpa using h)
      exact ⟨u, by simpa using h1, h2⟩
theorem keysOf_len {F : List Dat → Option Dat} : ∀ {ds : List Dat} {ks : List (List Int)}, keysOf F ds = some ks → ks.length = ds.length
  | [], _, e => by cases e; rfl
  | d0 :: ds, ks, e => by
    unfold keysOf at e
    obtain ⟨k, e1, e⟩ := Option.bind_eq_some_iff.mp e
    obtain ⟨t, e2, e⟩ := Option.bind_eq_some_iff.mp e
    obtain ⟨ts, e3, e⟩ := Option.bind_eq_some_iff.mp e
    cases e
    rw [List.length_cons, List.length_cons, keysOf_len e3]
def dMinK (F : List Dat → Option Dat) (ds : List Dat) : Option Dat := (keysOf F ds).bind fun ks => (tupsOf ds).bind fun _ => if ds.length ≤ 100000 then ds[bestI ks]? else none
/-- the reading: f's promise is F; the items xs are ds -/
def rMinK2 (K : PySem.W.Frag) (C : Addr) (f : Addr) (F : List Dat → Option Dat) : List V → List V → Hp → VK → Prop := fun vs zs H Q => ∃ (Hk : Hp) (a : Addr) (xs : List V) (ts : List (List Int)) (ks : List (List Int)), vs = [V.ref a] ∧ zs = [V.ref f] ∧ Le Hk H ∧ H a = some (.lst xs) ∧ RpL C Hk (ts.map tupI) xs ∧ ts ≠ [] ∧ keysOf F (ts.map tupI) = some ks ∧
  ∀ v Hk' H', Nx Hk H Hk' H' → xs[bestI ks]? = some v → Q v H'
section
variable {X : Cx} {C f : Addr} {fd : FuncData} {ps : List Str} {k : Nat} {F : List Dat → Option Dat} {pins : List (Addr × Obj)} {σ : L2.St} {H : Hp} {s : Shared}
theorem run_atD {A : Around} {E : Value → Shared → Prop} {Q : VK} {us : List Value} {vs : List V} {dvs : List V} {ds : List Value} {n : Nat} {sp : Sp} (Fk : FnOk X.prog X.w X.K X.mg X.base CX0 n f fd ps sp) (hr : Room n A) (hb : Binds X.K fd ps ds) (hd : Vals dvs ds) (e0 : Env0 X.prog X.w X.K X.mg X.base A X.stack s H)
    (I : Inv X pins σ H s) (r : Vals vs us) (h : sp (vs ++ dvs) H Q E0) : wpAny (model X.prog X.w) A (call (.ref f) us) (EP X pins σ Q) E s := by
  have r2 : Vals (vs ++ dvs) (us ++ ds) := r.append hd
  have hl : (us ++ ds).length = ps.length := by rw [← r2.length]; exact Fk.len _ _ _ _ h
  refine wpAny_call (codeAny_mono (Fk.run A X.stack s H ⟨us, []⟩ (us ++ ds) (vs ++ dvs) Q E0 hr e0 (hb s us I.kIn hl) r2 h) fun r s' hq => ?_)
  cases r with
  | error e => exact False.elim hq
  | ok fl =>
    cases fl with
    | ret u => exact I.after hq
    | next => exact False.elim hq
    | brk => exact False.elim hq
    | cont => exact False.elim hq
theorem fpOk_of {H H' : Hp} {b : Addr} (h : FpOk X pins H b) (e : H' b = none) : FpOk X pins H' b := ⟨e, h.2⟩
theorem refs_eq : ∀ {ys : List V} {us ws : List Value}, (∀ y ∈ ys, ∃ a, y = V.ref a) → Vals ys us → Vals ys ws → us = ws
  | [], _, _, _, .nil, .nil => rfl
  | y :: ys, _, _, h, .cons r1 t1, .cons r2 t2 => by
    obtain ⟨a, rfl⟩ := h y (List.mem_cons_self ..)
    cases r1
    cases r2
    rw [refs_eq (fun z hz => h z (List.mem_cons_of_mem _ hz)) t1 t2]
theorem tups_refs {Hk : Hp} : ∀ {ts : List (List Int)} {ys : List V}, RpL C Hk (ts.map tupI) ys → ∀ y ∈ ys, ∃ a, y = V.ref a
  | [], ys, r, y, h => by rw [r.nil] at h; cases h
  | t :: ts, ys, r, y, h => by
    obtain ⟨x, rest, rfl, h1, h2⟩ := r.cons
    rcases List.mem_cons.mp h with e | e
    · obtain ⟨a, _, q, _⟩ := (show Rp C Hk (.tup (t.map Dat.int)) x from h1).tup
      exact ⟨a, e.trans q⟩
    · exact tups_refs h2 y e
theorem reads_tupH {K : PySem.W.Frag} {H1 : Hp} (I : Inv X pins σ H1 s) {b : Addr} {t : List Int} (h : H1 b = some (.tup (t.map V.int))) : ∃ as, Reads s.heap (.ref b) (ptup t) as := by
  have all : ∀ t : List Int, DpAll X.K H1 (t.map V.int) (t.map PyData.int) := by
    intro t
    induction t with
    | nil => exact .nil
    | cons n t ih => exact .cons (.int n) ih
  exact Dp.reads I (ptup t) (.ref b) (.ref b) (.tup (SqT.of h) (all t)) rfl
theorem cr_minK2 {x : Str} (D : DefOk X.prog X.w X.K X.mg X.base C k x 1 F) (hx : X.mg x = some (.ref f)) (hc : X.calm = true) (hr : Room (k + 1) X.A) : CallRK X (.builtin "min") ["key"] (rMinK2 X.K C f F) := by
  intro pins s σ H vs zs us ws Q I r rz h
  obtain ⟨Hk, a, ys, ts, ks, rfl, rfl, hl, ha, rp, hne, hk, q⟩ := h
  obtain ⟨f', fd, ps, dd, dvs, dv, Gf, Fk, hm, hkp, hb, hd, hdd, hF⟩ := D.ex
  have ef : f' = f := by rw [hx] at hm; cases hm; rfl
  subst ef
  rw [Vals.ref1 r, Vals.ref1 rz]
  obtain ⟨its, rv, hll, hz⟩ := I.list (SqL.of ha)
  have isref := tups_refs rp
  have ln1 : its.length = ys.length := rv.length.symm
  have ln2 : ys.length = ts.length := by have := rp.length; rwa [List.length_map] at this
  have ln3 : ks.length = ts.length := by have := keysOf_len hk; rwa [List.length_map] at this
  have hpos : 0 < its.length := by rw [ln1, ln2]; exact List.length_pos_iff.mpr hne
  refine call_min_walk2 (PySem.W.iter_listW (A := X.A.in1) (I.ok.hd hc) hll.isList fun s₂ es W st hfp hw hkk => ?_)
  have I2 : Inv X pins σ H s₂ := by subst es; exact I.kept (t' := s.toks) hkk
  have sz2 : s.heap.objs.size < s₂.heap.objs.size := hfp _ (List.mem_cons_self ..)
  let It := s.heap.objs.size
  let S := s₂.heap.objs.size
  have fS : FpOk X pins H S := I2.fpOk (Nat.le_refl _) (I2.hok.fresh (Nat.le_refl _))
  have fI : FpOk X pins H It := I.fpOk (Nat.le_refl _) (I.hok.fresh (Nat.le_refl _))
  let J : Shared → Prop := fun s' => ∃ Hk1 H1, Nx Hk H Hk1 H1 ∧ Inv X pins σ H1 s' ∧ FpOk X pins H1 S ∧ FpOk X pins H1 It
  let N : Nat → Value → Shared → Prop := fun j kb s' => ∃ Hk1 H1 b t, Nx Hk H Hk1 H1 ∧ Inv X pins σ H1 s' ∧ FpOk X pins H1 S ∧ FpOk X pins H1 It ∧ kb = Value.ref b ∧ ks[j]? = some t ∧ H1 b = some (.tup (t.map V.int))
  let M : Nat → Value → Nat → Value → Shared → Prop := fun j kj i ki s' => ∃ Hk1 H1 b t b' t', Nx Hk H Hk1 H1 ∧ Inv X pins σ H1 s' ∧ FpOk X pins H1 S ∧ FpOk X pins H1 It ∧ kj = Value.ref b ∧ ks[j]? = some t ∧ H1 b = some (.tup (t.map V.int)) ∧
    ki = Value.ref b' ∧ ks[i]? = some t' ∧ H1 b' = some (.tup (t'.map V.int))
  have mv : ∀ {H1 : Hp} {s' s'' : Shared}, Inv X pins σ H1 s' → FpOk X pins H1 S → FpOk X pins H1 It → Moved (S :: [It]) (fun a b => b = a) s' s'' → Inv X pins σ H1 s'' := fun {H1 s' s''} I1 f1 f2 m => by
    have := I1.turnedL (t' := s''.toks) (ch := [S, It]) (h' := s''.heap) (fun b o hb e => m.heap b o hb e) (fun b hb => by
      rcases List.mem_cons.mp hb with z | z
      · rw [z]; exact f1
      · rw [List.mem_singleton.mp z]; exact f2)
    have e : s'' = { s' with heap := s''.heap, toks := s''.toks } := by
      obtain ⟨h'', g'', d'', t'', o''⟩ := s''
      obtain ⟨h', g', d', t', o'⟩ := s'
      have m1 := m.gens
      have m2 := m.drawn
      have m3 := m.os
      simp only at m1 m2 m3
      subst m1 m2 m3
      rfl
    rw [e]; exact this
  -- a call of the key
  have kc : ∀ {i : Nat} {v : Value} {s' : Shared} {o : Obj} {Hk1 H1 : Hp} {E : Value → Shared → Prop} {Q' : Value → Shared → Prop}, its.toArray[i]? = some v → Nx Hk H Hk1 H1 → Inv X pins σ H1 s' → FpOk X pins H1 S → FpOk X pins H1 It →
      (s'.heap.IsListIter It a (i + 1) ∧ s'.heap.IsList a its.toArray) → s'.heap.get? S = some o → (∀ v, o.data ≠ .cell v) →
      (∀ b t s'' Hk2 H2, Nx Hk1 H1 Hk2 H2 → Inv X pins σ H2 s'' → FpOk X pins H2 S → FpOk X pins H2 It → (s''.heap.IsListIter It a (i + 1) ∧ s''.heap.IsList a its.toArray) → s''.heap.get? S = some o → ks[i]? = some t → H2 b = some (.tup (t.map V.int)) → Q' (.ref b) s'') →
      wpAny (model X.prog X.w) X.A.in1 (call (.ref f') [v]) Q' E s' := fun {i v s' o Hk1 H1 E Q'} hv n1 I1 f1 f2 hst hS hod hQ => by
    have hv' : its[i]? = some v := by simpa using hv
    obtain ⟨y, hy, ry⟩ := vals_get' rv hv'
    obtain ⟨d, hdi, rdy⟩ := rp.get' hy
    obtain ⟨t, hti, eF⟩ := keysOf_get hk hdi
    obtain ⟨oI, heI, hcI, hdI⟩ := id hst.1
    have I3 := I1.pinned (fp := [S, It]) (fun b hb => by
      rcases List.mem_cons.mp hb with z | z
      · rw [z]; exact f1
      · rw [List.mem_singleton.mp z]; exact f2) (fun b hb => by
      rcases List.mem_cons.mp hb with z | z
      · rw [z]; exact ⟨o, hS, hod⟩
      · rw [List.mem_singleton.mp z]; exact ⟨oI, heI, fun v z => by rw [hdI] at z; cases z⟩)
    have hsp : SpF C 1 F [y] H1 (fun v' H' => ∃ Hk2, Nx Hk1 H1 Hk2 H' ∧ Rp C Hk2 (tupI t) v') E0 := ⟨rfl, Hk1, [d], tupI t, n1.kh, rpl_cons (rdy.mono n1.kk) rpl_nil, eF, fun v' Hk2 H2 n2 r2 => ⟨Hk2, n2, r2⟩⟩
    rw [hF] at hsp
    refine wpAny_mono (run_atD (us := [v]) (vs := [y]) Fk hr.in1 hb hd I3.env0.in1 I3 (.cons ry .nil) (spf_app hdd hsp)) (fun u s'' z => ?_) fun _ _ z => z
    obtain ⟨v', H2, I4, rv', Hk2, n2, rt⟩ := z
    obtain ⟨b, zs, rfl, hb1, hb2⟩ := (show Rp C Hk2 (.tup (t.map Dat.int)) v' from rt).tup
    rw [hb2.ints] at hb1
    cases rv'
    have pS := I4.pin (S, o) (List.mem_append_right _ (List.mem_append_right _ (mem_pinsAt (by simp) hS)))
    have pI := I4.pin (It, oI) (List.mem_append_right _ (List.mem_append_right _ (mem_pinsAt (by simp) heI)))
    have I5 : Inv X pins σ H2 s'' := I4.unpinned
    obtain ⟨its2, rv2, hl2, _⟩ := I5.list (SqL.of (n2.hh _ _ (n1.hh _ _ ha)))
    have eits : its2 = its := refs_eq isref rv2 rv
    rw [eits] at hl2
    exact hQ b t s'' Hk2 H2 n2 I5 (fpOk_of f1 pS.2.1) (fpOk_of f2 pI.2.1) ⟨hst.1.at fun oo e => by rw [heI] at e; cases e; exact pI.1, hl2.isList⟩ pS.1 hti (n2.kh _ _ hb1)
  have K : KeyRun2 X.prog X.w X.A.in1 (.ref f') S [It] (fun a b => b = a) its.toArray.size (fun i v => its.toArray[i]? = some v) (fun i s' => s'.heap.IsListIter It a i ∧ s'.heap.IsList a its.toArray) J N M (fun i j => llt (ks.getD i []) (ks.getD j [])) := {
    keepJ := fun s' s'' ⟨Hk1, H1, n1, I1, f1, f2⟩ m => ⟨Hk1, H1, n1, mv I1 f1 f2 m, f1, f2⟩
    keepN := fun j kb s' s'' ⟨Hk1, H1, b, t, n1, I1, f1, f2, rest⟩ m => ⟨Hk1, H1, b, t, n1, mv I1 f1 f2 m, f1, f2, rest⟩
    first := fun v s' o Q' E hP hJ hst hS hod hQ => by
      obtain ⟨Hk1, H1, n1, I1, f1, f2⟩ := hJ
      exact kc (i := 0) hP n1 I1 f1 f2 hst hS hod fun b t s'' Hk2 H2 n2 I3 g1 g2 hst2 hS2 ht hb => hQ _ s'' hst2 hS2 ⟨Hk2, H2, b, t, n1.trans n2, I3, g1, g2, rfl, ht, hb⟩
    turn := fun i j v kb s' o Q' E hi hP hN hst hS hod hQ => by
      obtain ⟨Hk1, H1, b, t, n1, I1, f1, f2, rfl, h1, h2⟩ := hN
      exact kc (i := i) hP n1 I1 f1 f2 hst hS hod fun b' t' s'' Hk2 H2 n2 I3 g1 g2 hst2 hS2 ht hb' => hQ _ s'' hst2 hS2 ⟨Hk2, H2, b, t, b', t', n1.trans n2, I3, g1, g2, rfl, h1, n2.hh _ _ h2, rfl, ht, hb'⟩
    cmp := fun i j ki kj s' Q' E hM hQ => by
      obtain ⟨Hk1, H1, b, t, b', t', n1, I1, f1, f2, rfl, h1, h2, rfl, h3, h4⟩ := hM
      obtain ⟨as1, r1⟩ := reads_tupH (K := X.K) I1 h2
      obtain ⟨as2, r2⟩ := reads_tupH (K := X.K) I1 h4
      have g1 : ks.getD j [] = t := by rw [List.getD_eq_getElem?_getD, h1]; rfl
      have g2 : ks.getD i [] = t' := by rw [List.getD_eq_getElem?_getD, h3]; rfl
      refine PySem.W.rcLt_alike (ptup t') (ptup t) X.A.in1 s' (.ref b') (.ref b) as2 as1 r2 r1 (by
        unfold ptup
        simp only [PySem.W.alike]
        exact alike_ints _ _) (by unfold ptup; intro z; cases z) (by
        have d1 : (ptup t').depth ≤ 1 := by
          unfold ptup
          simp only [PyData.depth, depth_ints]
          decide
        have := hr.in1.units
        omega) X.prog X.w E Q' ?_
      rw [dataLt_tups]
      rw [g1, g2] at hQ
      exact hQ
    left := fun i j ki kj s' ⟨Hk1, H1, b, t, b', t', n1, I1, f1, f2, e1, h1, h2, _⟩ => ⟨Hk1, H1, b, t, n1, I1, f1, f2, e1, h1, h2⟩
    right := fun i j ki kj s' ⟨Hk1, H1, b, t, b', t', n1, I1, f1, f2, _, _, _, e1, h1, h2⟩ => ⟨Hk1, H1, b', t', n1, I1, f1, f2, e1, h1, h2⟩
    fin := fun j kb s' ⟨Hk1, H1, b, t, n1, I1, f1, f2, _⟩ => ⟨Hk1, H1, n1, I1, f1, f2⟩ }
  refine ⟨_, _, _, _, _, _, _, J, N, M, _, rfl, W, st, hfp, by simpa using hpos, K, ⟨Hk, H, Nx.refl hl, I2, fS, fI⟩, fun v s' hP hJ => ?_⟩
  obtain ⟨Hk1, H1, n1, I1, f1, f2⟩ := hJ
  have hP' : its[bestI ks]? = some v := by
    have e : its.toArray.size - 1 = ks.length - 1 := by rw [List.size_toArray, ln1, ln2, ln3]
    rw [e] at hP
    simpa [bestI] using hP
  obtain ⟨y, hy, ry⟩ := vals_get' rv hP'
  exact ⟨y, H1, I1, ry, q y Hk1 H1 n1 hy⟩
end
section
variable {C : Addr} {X : Cx} {K : PySem.W.Frag} {e : Expr} {pos p p2 : Pos} {la : En → Option (List Dat)} {ue : TE} {x : Str} {k : Nat} {F : List Dat → Option Dat} {f : Addr}
theorem se_minK (D : DefOk X.prog X.w X.K X.mg X.base C k x 1 F) (hx : X.mg x = some (.ref f)) (hc : X.calm = true) (hr : Room (k + 1) X.A) (hm : X.mg "min" = none) (ha : SW X C e ue la) (hg : Gl X "min" := by rfl) (hgx : Gl X x := by rfl) (hdx : (x == ("__debug__" : Str)) = false := by decide)
    (he : backTo pos (starEach [e] X.env) = [(false, eval e X.env)] := by rfl) (hs : starEach [e] X.env = [(false, eval e X.env)] := by rfl)
    (hpl : (backTo pos (starEach [e] X.env)).any (·.1) = false := by rfl)
    (hall : (backToKw pos (keywordEach [⟨some "key", .Name x p2, kpos⟩] X.env)).all (·.1.isSome) = true := by rfl) (hnone : (backToKw pos (keywordEach [⟨some "key", .Name x p2, kpos⟩] X.env)).any (·.1.isNone) = false := by rfl) (hks : (backToKw pos (keywordEach [⟨some "key", .Name x p2, kpos⟩] X.env)).filterMap (·.1) = [("key" : Str)] := by rfl) :
    SE X C (.Call (.Name "min" p) [e] [⟨some "key", .Name x p2, kpos⟩] pos) (tCKw (rMinK2 X.K C f F) (tCons ue tNil) (tCons (tC (.ref f)) tNil)) (fC (dMinK F) la) := by
  refine ⟨pe_callBK (cr_minK2 D hx hc hr) hg hm (by decide +kernel) (pa_cons ha.p pa_nil hs) (pk_cons (pe_glob hgx hx (v := .ref f) rfl hdx) pk_nil) (by decide) (by decide) he hpl hall hnone hks, fun Hk H σ ρ d r ee Q q => ?_⟩
  unfold fC at ee
  obtain ⟨ds, e1, ee⟩ := Option.bind_eq_some_iff.mp ee
  unfold dMinK at ee
  obtain ⟨ks, e2, ee⟩ := Option.bind_eq_some_iff.mp ee
  obtain ⟨ts, e3, ee⟩ := Option.bind_eq_some_iff.mp ee
  split at ee
  · refine ha.o Hk H σ ρ ds r e1 _ fun l xs Hk1 H1 n1 h1 r1 => ?_
    have ed := tupsOf_map e3
    have hne : ts ≠ [] := fun z => by rw [ed, z] at ee; simp at ee
    refine ⟨Hk1, l, xs, ts, ks, rfl, rfl, n1.kh, h1, ed ▸ r1, hne, ed ▸ e2, fun v Hk2 H2 n2 hv => ?_⟩
    obtain ⟨v', k1, k2⟩ := r1.get ee
    rw [hv] at k1
    cases k1
    exact q v Hk2 H2 (n1.trans n2) (k2.mono n2.kk)
  · cases ee
end
end L3
set_option maxHeartbeats 4000000
namespace L3
open PySem L2 RZ
section
variable {P : Program} {w : World} {K : PySem.W.Frag} {mg : Str → Option Value} {base : Heap}
def s_settled : En → Option Fl := sSeq (sSetO 2 (fCons (fC F_turn_for (fCons (fV 0) (fNil))) (fNil)))
  (sSeq (sApp 2 (fC F_inverse_of (fCons (fIxL (fO 2) (fK (.int 0))) (fNil))))
  (sFrz 2 (sSeq (sFor (fSq (fV 2)) (gN 3) (sSeq (sSet 4 (fC F_applied (fCons (fV 3) (fCons (fV 1) (fNil)))))
  (sWhile (fB (f2 dLt (fC dAbs (fCons (fIxL (fSq (fV 4)) (fK (.int 1))) fNil)) (fC dAbs (fCons (fIxL (fSq (fV 1)) (fK (.int 1))) fNil)))) (sPar [1, 4] (bF (fV 4) (bF (fC F_applied (fCons (fV 3) (fCons (fV 4) (fNil)))) (bNil)))))))
  (sSeq (sSet 5 (fLst (fCat (fCons (fC dTup (fSq (fV 1))) (fNil)) (fLc (fSq (fV 2)) (gN 3) (fYes) (fC dTup (fSq (fC F_applied (fCons (fV 3) (fCons (fV 1) (fNil)))))) [3]))))
  (sSeq (sSet 5 (fLst (fCat (fUn (fV 5)) (fLc (fSq (fV 5)) (gT (gsC (gN 6) (gsC (gN 7) (gsN)))) (fYes) (fTup (fCons (f1 dNeg (fV 6)) (fCons (f1 dNeg (fV 7)) (fNil)))) [6, 7]))))
  (sRet (fC (dMinK F_weight_of) (fUn (fV 5)))))))))
def F_settled : List Dat → Option Dat := runF s_settled 6
theorem sc_settled : FnScope ["form", "point", "steps", "step", "later", "some", "x", "y"] ["form", "point"] (defScope (top 101)) := ⟨rfl, rfl, rfl, by decide +kernel, rfl, by decide +kernel, by decide +kernel⟩
theorem d_settled (W : Wf K mg) : DefOk P w K mg base (CF K) 5 "settled" 2 F_settled := by
  obtain ⟨fd, F⟩ := W.d 63 rfl
  have nd := sc_settled.nd
  exact defok F (fn_spf (k := 4) F sc_settled (by decide) fun cdv A outer sh H hr => ⟨_, (ss_cons (ss_setO 2 nd (sl_lst (sa_cons (se_call (d_turn_for W) (hr.mono (by decide)) (sa_cons (se_var 0) sa_nil)) sa_nil)))
  (ss_cons (ss_app 2 (se_call (d_inverse_of W) (hr.mono (by decide)) (sa_cons (se_ixK (K := K) (SW.sq (sw_ow 2)) se_int) sa_nil)))
  (sss_frz 2 (ss_cons (ss_for PassesOwn.never rfl (si_seqK (K := K) (se_var 2)) (sg_name 3 nd) (ss_cons (ss_set 4 nd (se_call (d_applied W) (hr.mono (by decide)) (sa_cons (se_var 3) (sa_cons (se_var 1) sa_nil))))
  (ss_one (ss_while PassesOwn.never (st_lt (se_abs W.b_abs (se_ixK (K := K) (SE.sq (se_var 4)) se_int)) (se_abs W.b_abs (se_ixK (K := K) (SE.sq (se_var 1)) se_int))) (ss_one (ss_parT rfl (snm_cons 1 nd (snm_cons 4 nd snm_nil)) (sb_f (se_var 4) (sb_f (se_call (d_applied W) (hr.mono (by decide)) (sa_cons (se_var 3) (sa_cons (se_var 4) sa_nil))) sb_nil))))))))
  (ss_cons (ss_set 5 nd (SL.se (sl_cat (SL.sw (sl_lst (sa_cons (se_tupofK (K := K) W.b_tuple (SE.sq (se_var 1))) sa_nil))) (SL.sw (sl_lc (own := [("step", 3)]) rfl nd (blkOk_by (own := [("step", 3)]) (by kernel_rfl)) (by decide) (SI.w (si_seqK (K := K) (se_var 2))) (fun _ _ _ _ _ => (sg_name 3 nd)) (fun _ _ _ _ _ => sts_nil) (fun _ _ _ _ _ => (se_tupofK (K := K) W.b_tuple (SE.sq (se_call (d_applied W) (hr.mono (by decide)) (sa_cons (se_var 3) (sa_cons (se_var 1) sa_nil)))))))))))
  (ss_cons (ss_set 5 nd (SL.se (sl_cat (SE.sw (se_var 5)) (SL.sw (sl_lc (own := [("x", 6), ("y", 7)]) rfl nd (blkOk_by (own := [("x", 6), ("y", 7)]) (by kernel_rfl)) (by decide) (SI.w (si_seqK (K := K) (se_var 5))) (fun _ _ _ _ _ => (sg_tupK (K := K) rfl (sgs_cons (sg_name 6 nd) (sgs_cons (sg_name 7 nd) sgs_nil)))) (fun _ _ _ _ _ => sts_nil) (fun _ _ _ _ _ => (se_tup (sa_cons (se_neg (se_var 6)) (sa_cons (se_neg (se_var 7)) sa_nil)))))))))
  (ss_one (ss_ret (se_minK (d_weight_of W) (W.g 62 rfl) rfl (hr.mono (by decide)) W.b_min (SE.sw (se_var 5)))))))))))⟩) (W.g 63 rfl) (F.bindsN fun _ _ _ _ _ _ us hl => match us, hl with | [_, _], _ => rfl)
def s_family_list : En → Option Fl := sRet (fC dSortSet (fLc (fSq (fC F_starts_of (fCons (fV 0) (fCons (fV 1) (fNil))))) (gN 2) (fYes) (fC F_settled (fCons (fV 0) (fCons (fV 2) (fNil)))) [2]))
def F_family_list : List Dat → Option Dat := runF s_family_list 1
theorem sc_family_list : FnScope ["form", "number", "start"] ["form", "number"] (defScope (top 102)) := ⟨rfl, rfl, rfl, by decide +kernel, rfl, by decide +kernel, by decide +kernel⟩
theorem d_family_list (W : Wf K mg) : DefOk P w K mg base (CF K) 12 "family_list" 2 F_family_list := by
  obtain ⟨fd, F⟩ := W.d 64 rfl
  have nd := sc_family_list.nd
  exact defok F (fn_spf (k := 11) F sc_family_list (by decide) fun cdv A outer sh H hr => ⟨_, (ss_one (ss_ret (se_sortSetK rfl W.b_sorted W.b_set hr.units (SL.sw (sl_lc (own := [("start", 2)]) rfl nd (blkOk_by (own := [("start", 2)]) (by kernel_rfl)) (by decide) (SI.w (si_seqK (K := K) (se_call (d_starts_of W) (hr.mono (by decide)) (sa_cons (se_var 0) (sa_cons (se_var 1) sa_nil))))) (fun _ _ _ _ _ => (sg_name 2 nd)) (fun _ _ _ _ _ => sts_nil) (fun _ _ _ _ _ => (se_call (d_settled W) (hr.mono (by decide)) (sa_cons (se_var 0) (sa_cons (se_var 2) sa_nil)))))))))⟩) (W.g 64 rfl) (F.bindsN fun _ _ _ _ _ _ us hl => match us, hl with | [_, _], _ => rfl)
def s_families : En → Option Fl := sSeq (sExpr (fC F_check_form (fCons (fV 0) (fNil))))
  (sSeq (sExpr (fC F_check_number (fCons (fV 1) (fNil))))
  (sSeq (sExpr (fC F_check_turned (fCons (fV 0) (fNil))))
  (sRet (fC dTup (fSq (fC F_family_list (fCons (fV 0) (fCons (fV 1) (fNil)))))))))
def F_families : List Dat → Option Dat := runF s_families 0
theorem sc_families : FnScope ["form", "number"] ["form", "number"] (defScope (top 105)) := ⟨rfl, rfl, rfl, by decide +kernel, rfl, by decide +kernel, by decide +kernel⟩
theorem d_families (W : Wf K mg) : DefOk P w K mg base (CF K) 13 "families" 2 F_families := by
  obtain ⟨fd, F⟩ := W.d 67 rfl
  have nd := sc_families.nd
  exact defok F (fn_spf (k := 12) F sc_families (by decide) fun cdv A outer sh H hr => ⟨_, (ss_cons (ss_expr (se_call (d_check_form W) (hr.mono (by decide)) (sa_cons (se_var 0) sa_nil)))
  (ss_cons (ss_expr (se_call (d_check_number W) (hr.mono (by decide)) (sa_cons (se_var 1) sa_nil)))
  (ss_cons (ss_expr (se_call (d_check_turned W) (hr.mono (by decide)) (sa_cons (se_var 0) sa_nil)))
  (ss_one (ss_ret (se_tupofK (K := K) W.b_tuple (SE.sq (se_call (d_family_list W) (hr.mono (by decide)) (sa_cons (se_var 0) (sa_cons (se_var 1) sa_nil))))))))))⟩) (W.g 67 rfl) (F.bindsN fun _ _ _ _ _ _ us hl => match us, hl with | [_, _], _ => rfl)
end
end L3
set_option maxHeartbeats 4000000
namespace L2
open PySem PySem.Spec PyProof.Rows
/-! ### {k: v for ..}, keys tuples of ints -/
theorem d_dictSetT {X : Cx} {pins : List (Addr × Obj)} {σ : St} {H : Hp} {s : Shared} {E : Value → Shared → Prop} {D b : Addr} {kvs : List (List Key × V)} {k : List Key} {v : V} {u r : Value} {Q : Unit → Shared → Prop} (hu : X.A.units + 1 < cLine) (I : Inv X pins σ H s) (hD : H D = some (.dT kvs))
    (eb : H b = some (.tup (k.map kV))) (hz0 : kvs.length < sizeLine) (ry : RelV (.ref b) u) (rv : RelV v r) (h : ∀ s', Inv X pins σ (upd H D (.dT (putK kvs k v))) s' → Q () s') : wpAny (model X.prog X.w) X.A (dictSet D u r) Q E s := by
  cases (show u = Value.ref b from ry)
  obtain ⟨z, hd, xs, rel, dd⟩ := dt_of I.hok hD
  have hz : xs.length ≤ sizeLine := by rw [← Paired.length rel]; exact z
  have hl : (putK kvs k v).length ≤ sizeLine := by have := length_putK kvs k v; omega
  refine wpAny_dictSet_heap (hsz := hz) (knd := tupleKind (mixKind X.prog X.w)) (show X.A.units < cLine by omega) (key_of I.hok eb) dd fun h' dd' hs => h _ ?_
  obtain ⟨q, es, ep, hq, h2, h3, h4, _, h5⟩ := dd'
  refine d_write I (by rw [hD]; exact True.intro) hs ⟨q, hq⟩ ⟨hl, hd, _, (rel.put k eb rv).keeps fun c ys ec => ?_, q, es, ep, hq, h2, h3, h4, h5⟩
  rw [upd_ne (ne_of ec hD (fun z => nomatch z))]
  exact ec
section
variable {X : Cx}
def tDcT (wi : TI) (g : TG) (tt : TT) (tk tv : TE) (vs : List Nat) : TE := fun σ H Q => wi σ H fun J H1 => ∀ D, H1 D = none → ∃ W : Nat → Nat → Hp → Prop, (∃ m, W 0 m (upd H1 D (.dT []))) ∧ ∀ i m H, W i m H →
  (J.stop i H ∧ Q (.ref D) H) ∨ (J.go i H ∧ ∃ Nx : Hp → Prop, (∀ H', Nx H' → ∃ m', m' < m ∧ W (i + 1) m' H') ∧ ∀ x H', J.yld i H x H' → g x (wipe σ vs) H' fun σ2 H2 => wipe σ2 vs = wipe σ vs ∧ tt σ2 H2 fun b H3 =>
    if b = true then tk σ2 H3 fun y H4 => tv σ2 H4 fun z H5 => ∃ kvs k b, y = V.ref b ∧ H5 b = some (.tup (k.map kV)) ∧ H5 D = some (.dT kvs) ∧ kvs.length < sizeLine ∧ Nx (upd H5 D (.dT (putK kvs k z))) else Nx H3)
theorem dcT_core {pins : List (Addr × Obj)} {s : Shared} {σ : St} {H : Hp} {Q : VK} {kx vx tg iter : Expr} {ifs : List Expr} {scope : Scope} {own : List (Str × Nat)} {pos pos' : Pos} {wi : TI} {g : TG} {tt : TT} {tk tv : TE} {use : Option (Value → Sem Unit)} {Qf : Value → Shared → Prop}
    (hu : X.A.units + 1 < cLine) (hc : X.calm = true) (hN : X.N.Nodup) (I : Inv X pins σ H s) (hi : PI X tg iter wi) (ok : BlkOk X.N X.env.scope scope own)
    (hg : ∀ (s : Shared) (H : Hp) (C : Addr) (cl : List (Str × Addr)) (fp : List Addr), PG (X.blk s H scope (compEnvC scope cl C X.env) fp) tg g) (ht : ∀ (s : Shared) (H : Hp) (C : Addr) (cl : List (Str × Addr)) (fp : List Addr), PTs (X.blk s H scope (compEnvC scope cl C X.env) fp) ifs tt)
    (hk : ∀ (s : Shared) (H : Hp) (C : Addr) (cl : List (Str × Addr)) (fp : List Addr), PE (X.blk s H scope (compEnvC scope cl C X.env) fp) kx tk)
    (he : ∀ (s : Shared) (H : Hp) (C : Addr) (cl : List (Str × Addr)) (fp : List Addr), PE (X.blk s H scope (compEnvC scope cl C X.env) fp) vx tv) (hs : ∀ x, foldedSetIterable iter X.env x = pure x)
    (h : tDcT wi g tt tk tv (own.map (·.2)) σ H Q)
    (hRR : ∀ D C s' m H', Inv X pins σ H' s' → Q (.ref D) H' → s'.heap.Ns C m → FpOk X pins H' C → compPost (model X.prog X.w) X.A X.xe use Qf (.ref D) C (.ok .next) s') :
    wpAny (model X.prog X.w) X.A (comprehension (.DictComp kx vx [⟨tg, iter, ifs, 0⟩] scope pos) scope X.env pos' newDict false (eval iter X.env) use) Qf X.xe s := by
  have hfree : ∀ y ∈ scope.names, y.2 = .free → ∃ c, X.env.cells.lookup y.1 = some c := fun y hy e => by
    rcases ok.free y hy e with k | k
    · exact I.ok.has _ (.inl k)
    · exact I.ok.has _ (.inr k)
  refine wpAny_comprehension_free (use := use) rfl hs (closure_ok hfree) ok.kind (fun y hy e => by rw [ok.uniq y hy, e])
    (thn (hi.run pins s σ H _ I h) fun xv s1 hx => thn hx fun itv s2 h2 => ?_)
  obtain ⟨it, fp, tn, J, H2, e, I2, T, st2, f2, q⟩ := h2
  subst e
  refine wpAny_newObj_type (newEnv_comp ?_)
  generalize hD : s2.heap.objs.size = D
  have hDn : H2 D = none := I2.hok.fresh (Nat.le_of_eq hD)
  obtain ⟨W, ⟨m0, w0⟩, turn⟩ := q D hDn
  -- the new list
  generalize hs3 : ({ s2 with heap := s2.heap.push { cls := .type "dict", data := .dict #[] } } : Shared) = s3
  have I3 : Inv X pins σ (upd H2 D (.dT [])) s3 := by
    rw [← hs3]
    refine I2.laid (t' := s2.toks) (fun b o e => Heap.get?_push_of_some _ e) (Nat.le_of_eq hD) ?_
    rw [← hD]
    exact dt_empty s2.heap I2.big
  have h3 : s3.heap = s2.heap.push { cls := .type "dict", data := .dict #[] } := by rw [← hs3]
  have sz : ∀ b ∈ fp, b < s2.heap.objs.size := fun b hb => by
    obtain ⟨o, e, _⟩ := T.obj _ _ st2 b hb
    exact Heap.lt_size e
  have f3 : ∀ b ∈ fp, FpOk X pins (upd H2 D (.dT [])) b ∧ b < s3.heap.objs.size := fun b hb => by
    have hlt := sz b hb
    refine ⟨⟨?_, (f2 b hb).2⟩, by rw [h3, Heap.size_push]; exact Nat.lt_succ_of_lt hlt⟩
    rw [upd_ne (by rw [← hD]; exact Nat.ne_of_lt hlt)]
    exact (f2 b hb).1
  have st3 : tn 0 s3.heap := T.keep _ _ _ st2 fun b _ o e => by rw [h3]; exact Heap.get?_push_of_some _ e
  have I4 := block_start I3 ok hN f3
  have pg := hg s3 (upd H2 D (.dT [])) s3.heap.objs.size (cellsFrom (s3.heap.objs.size + 1) scope.names (cloFrom X.env.cells scope.names [])) fp
  have pt := ht s3 (upd H2 D (.dT [])) s3.heap.objs.size (cellsFrom (s3.heap.objs.size + 1) scope.names (cloFrom X.env.cells scope.names [])) fp
  have pk := hk s3 (upd H2 D (.dT [])) s3.heap.objs.size (cellsFrom (s3.heap.objs.size + 1) scope.names (cloFrom X.env.cells scope.names [])) fp
  have pe := he s3 (upd H2 D (.dT [])) s3.heap.objs.size (cellsFrom (s3.heap.objs.size + 1) scope.names (cloFrom X.env.cells scope.names [])) fp
  show codeAny _ _ (.compStart (.DictComp kx vx [⟨tg, iter, ifs, 0⟩] scope pos) 0 (.ref it) (.ref D) (compEnvC scope (cellsFrom (s3.heap.objs.size + 1) scope.names (cloFrom X.env.cells scope.names [])) s3.heap.objs.size X.env)) (compPost (model X.prog X.w) X.A X.xe use Qf (.ref D) s3.heap.objs.size) { s3 with heap := pushCells (s3.heap.push { cls := .type "dict", data := .dict #[] }) scope.names }
  have nfp : ∀ b ∈ fp, (upd H2 D (.dT [])) b = none := fun b hb => (f3 b hb).1.1
  generalize hce : compEnvC scope (cellsFrom (s3.heap.objs.size + 1) scope.names (cloFrom X.env.cells scope.names [])) s3.heap.objs.size X.env = ce at I4 pg pt pk pe ⊢
  have cL : ce.locals = s3.heap.objs.size := by subst hce; rfl
  generalize hH3 : upd H2 D (.dT []) = H3 at I3 I4 pg pt pk pe w0 nfp f3
  generalize hs4 : ({ s3 with heap := pushCells (s3.heap.push { cls := .type "dict", data := .dict #[] }) scope.names } : Shared) = s4 at I4 ⊢
  have st4 : tn 0 s4.heap := T.keep _ _ _ st3 fun b _ o e => by rw [← hs4]; exact pushCells_keeps _ _ _ _ (Heap.get?_push_of_some _ e)
  have stat : ∀ {σ' : St} {H' : Hp} {s' : Shared}, Inv (X.blk s3 H3 scope ce fp) [] σ' H' s' → (∀ b ∈ fp, H' b = none) → ∀ b ∈ fp, FpOk (X.blk s3 H3 scope ce fp) [] H' b := fun {σ' H' s'} I' hn b hb =>
    ⟨hn b hb, (I'.ok.exf b hb).1, I'.ok.exfs b hb, .inl hb, fun x c e => (I'.ok.exf b hb).2 x c e, fun p hp => absurd (show p ∈ ([] : List (Addr × Obj)) ++ [] from hp) (by simp)⟩
  have loop : codeAny (model X.prog X.w) X.A (.compLoop (.DictComp kx vx [⟨tg, iter, ifs, 0⟩] scope pos) 0 (.ref it) (.ref D) ce) (compPost (model X.prog X.w) X.A X.xe use Qf (.ref D) s3.heap.objs.size) s4 := by
    refine compLoop_anyD (fun n s' => ∃ i H', Inv (X.blk s3 H3 scope ce fp) [] (wipe σ (own.map (·.2))) H' s' ∧ tn i s'.heap ∧ (∀ b ∈ fp, H' b = none) ∧ W i n H') ?_ m0 ⟨0, H3, I4, st4, nfp, w0⟩
    rintro n s5 ⟨i, H5, I5, st5, n5, w5⟩
    rcases turn i n H5 w5 with ⟨stop, qq⟩ | ⟨go, Nx, hNx, step⟩
    · have td := T.done (X.blk s3 H3 scope ce fp) rfl rfl rfl hc i [] s5 _ H5 (fun _ _ => False) I5 (stat I5 n5) st5 stop
      refine thnF td fun r s6 ⟨hr, I6⟩ => ?_
      subst hr
      -- back in the def's context
      have I7 : Inv X pins σ H5 s6 := I3.call' (ch := fp) I6.os I6.base I6.hok I6.bare fun b hb => ⟨(f3 b hb).1.2.2.2.1, (f3 b hb).1.2.1, (f3 b hb).1.2.2.2.2.1, (f3 b hb).1.2.2.2.2.2⟩
      have nC : H5 s3.heap.objs.size = none := by
        have z : H5 ce.locals = none := I6.free
        rw [cL] at z
        exact z
      obtain ⟨m, hn, _⟩ := I6.loc
      have hn : s6.heap.Ns ce.locals m := hn
      rw [cL] at hn
      exact hRR D s3.heap.objs.size s6 m H5 I7 qq hn (I3.fpOk (Nat.le_refl _) nC)
    · have ti := T.item (X.blk s3 H3 scope ce fp) rfl rfl rfl hc i [] s5 _ H5 (fun _ _ => False) I5 (stat I5 n5) st5 go
      refine thnF ti fun r s6 ⟨u, hr, h6⟩ => ?_
      subst hr
      refine thnF h6 fun _ s7 ⟨x, H7, I7, r7, y7, st7, n7⟩ => ?_
      have I7' := I7.pinned (stat I7 n7) (T.obj _ _ st7)
      refine thnF (pg.run _ s7 _ H7 x u _ I7' r7 (step x H7 y7)) fun _ s8 ⟨σ8, H8, I8, hw8, q8⟩ => ?_
      refine thnF (pt.run _ s8 σ8 H8 _ I8 q8) fun b s9 ⟨H9, I9, q9⟩ => ?_
      -- the turn's end
      have fin : ∀ {s' : Shared} {H' : Hp}, Inv (X.blk s3 H3 scope ce fp) ([] ++ pinsAt fp s7.heap) σ8 H' s' → Nx H' → ∃ m, m < n ∧ ∃ i H', Inv (X.blk s3 H3 scope ce fp) [] (wipe σ (own.map (·.2))) H' s' ∧ tn i s'.heap ∧ (∀ b ∈ fp, H' b = none) ∧ W i m H' := fun {s' H'} I' nx => by
        obtain ⟨m', hm, w'⟩ := hNx H' nx
        have pin' : ∀ b ∈ fp, ∀ o, s7.heap.get? b = some o → s'.heap.get? b = some o ∧ H' b = none := fun b hb o e =>
          let z := I'.pin (b, o) (List.mem_append_right _ (List.mem_append_right _ (mem_pinsAt hb e)))
          ⟨z.1, z.2.1⟩
        have hl : (wipe σ (own.map (·.2))).length = σ8.length := by rw [← hw8, wipe_length]
        refine ⟨m', hm, i + 1, H', (I'.unpinned (pins := [])).weak hl (fun j v e => ?_), T.keep _ _ _ st7 fun b hb o e => (pin' b hb o e).1, fun b hb => ?_, w'⟩
        · rw [← hw8] at e
          exact (wipe_some e).1
        · obtain ⟨o, e, _⟩ := T.obj _ _ st7 b hb
          exact (pin' b hb o e).2
      cases b with
      | false =>
        simp only [Bool.false_eq_true, if_false] at q9 ⊢
        exact fin I9 q9
      | true =>
        simp only [if_true] at q9 ⊢
        refine thnF (pk.run _ s9 σ8 H9 _ I9 q9) fun z s10 ⟨yk, H10, I10, r10, q10⟩ => ?_
        refine thnF (pe.run _ s10 σ8 H10 _ I10 q10) fun z2 s11 ⟨yv, H11, I11, r11, kvs, k, b0, ek, hb0, hD11, hz11, nx⟩ => ?_
        subst ek
        exact d_dictSetT (X := X.blk s3 H3 scope ce fp) hu I11 hD11 hb0 hz11 r10 r11 fun s12 I12 => fin I12 nx
  exact codeAny_compStart_dict loop (T.self X.A 0 _ _ _ st4 loop)
/-- as a value -/
theorem pe_dcT {kx vx tg iter : Expr} {ifs : List Expr} {scope : Scope} {own : List (Str × Nat)} {pos : Pos} {wi : TI} {g : TG} {tt : TT} {tk tv : TE} (hu : X.A.units + 1 < cLine) (hc : X.calm = true) (hN : X.N.Nodup) (hi : PI X tg iter wi) (ok : BlkOk X.N X.env.scope scope own)
    (hg : ∀ (s : Shared) (H : Hp) (C : Addr) (cl : List (Str × Addr)) (fp : List Addr), PG (X.blk s H scope (compEnvC scope cl C X.env) fp) tg g) (ht : ∀ (s : Shared) (H : Hp) (C : Addr) (cl : List (Str × Addr)) (fp : List Addr), PTs (X.blk s H scope (compEnvC scope cl C X.env) fp) ifs tt)
    (hk : ∀ (s : Shared) (H : Hp) (C : Addr) (cl : List (Str × Addr)) (fp : List Addr), PE (X.blk s H scope (compEnvC scope cl C X.env) fp) kx tk)
    (he : ∀ (s : Shared) (H : Hp) (C : Addr) (cl : List (Str × Addr)) (fp : List Addr), PE (X.blk s H scope (compEnvC scope cl C X.env) fp) vx tv) (hs : ∀ x, foldedSetIterable iter X.env x = pure x := by intro _; rfl) :
    PE X (.DictComp kx vx [⟨tg, iter, ifs, 0⟩] scope pos) (tDcT wi g tt tk tv (own.map (·.2))) := by
  refine ⟨fun pins s σ H Q I h => ?_⟩
  rw [arm_eval_DictComp]
  refine dcT_core hu hc hN I hi ok hg ht hk he hs h fun D C s' m H' I' q hn f => ⟨m, hn, fun h'' sb => ?_⟩
  obtain ⟨f0, f1, f2, f3, f4, f5⟩ := f
  exact ⟨.ref D, H', I'.turned (t' := s'.toks) (fun b o hb e => (sb.2 b hb).trans e) f0 f1 f3 f4 f5, rfl, q⟩
end
end L2
set_option maxHeartbeats 4000000
namespace L2
open PySem PySem.W PySem.Calls PyProof.Rows PyProof.V PySem.Spec
/-! ### sorted(d), d a dict whose keys are tuples of ints -/
def rSortedDT (K : PySem.W.Frag) : List V → Hp → VK → Prop := fun vs H Q => ∃ (d : Addr) (kvs : List (List Key × V)) (ts : List (List Int)), vs = [V.ref d] ∧ H d = some (.dT kvs) ∧ kvs.map (·.1) = ts.map (fun t => t.map Sum.inl) ∧ (∀ t ∈ ts, t ≠ []) ∧
  ∀ (zs : List (Addr × List Int)) (p : Addr), (∀ z ∈ zs, H z.1 = some (.tup (z.2.map V.int))) → (zs.map (·.2)).Perm ts → L3.Asc (zs.map (·.2)) → H p = none → Q (.ref p) (upd H p (.lst (zs.map fun z => V.ref z.1)))
theorem map_kV (t : List Int) : ((t.map Sum.inl : List Key).map kV) = t.map V.int := by rw [List.map_map]; rfl
theorem keys_zip {H : Hp} : ∀ {kvs : List (List Key × V)} {bs : List Addr} {ts : List (List Int)}, IsKeys H kvs bs → kvs.map (·.1) = ts.map (fun t => t.map Sum.inl) → ∃ L : List (Addr × List Int), bs = L.map (·.1) ∧ ts = L.map (·.2) ∧ ∀ q ∈ L, H q.1 = some (.tup (q.2.map V.int))
  | [], [], [], .nil, _ => ⟨[], rfl, rfl, fun _ h => nomatch h⟩
  | [], _, _ :: _, _, h => by cases h
  | _ :: _, _, [], _, h => by cases h
  | kv :: kvs, b :: bs, t :: ts, .cons h1 h2, h => by
    simp only [List.map_cons, List.cons.injEq] at h
    obtain ⟨L, e1, e2, h3⟩ := keys_zip h2 h.2
    refine ⟨(b, t) :: L, by rw [e1]; rfl, by rw [e2]; rfl, fun q hq => ?_⟩
    rcases List.mem_cons.mp hq with z | z
    · rw [z]
      have h1' : H b = some (.tup (kv.1.map kV)) := h1
      rw [h.1, map_kV] at h1'
      exact h1'
    · exact h3 q z
theorem cr_sortedDT {X : Cx} (hc : X.calm = true) (hu : X.A.units + 64 < cLine) : CallR X (.builtin "sorted") (rSortedDT X.K) := by
  intro pins s σ H vs us Q I r h
  obtain ⟨d, kvs, ts, rfl, hd, hts, hne, q⟩ := h
  rw [Vals.ref1 r]
  obtain ⟨z, hs, ks, pr, o, es, ep, ho, hx, hdt, he, hn⟩ := (show ObjOk X.prog X.w H s.heap d (.dT kvs) from I.hok d _ hd)
  have l1 : es.size = ks.length := size_of_entries he
  have l2 : kvs.length = ks.length := Paired.length pr
  obtain ⟨L, eb, et, hL⟩ := keys_zip (isKeys_of pr) hts
  refine Calls.call_function_entry kind_sorted plain_sorted entry_sorted (args_sorted1 _) ?_
  unfold Builtin.«sorted»
  refine wpAny_bind (m := checkCount "sorted" 1 1 _) (wpAny_pure ?_)
  refine wpAny_bind (kdu_collect (A := X.A.in1) (kdl_raw hs hx hdt) (I.ok.hd hc) ho (by omega) fun h' tk acc hk hacc => ?_)
  have ea : acc.toList = L.map fun q => Value.ref q.1 := by
    have hl : acc.toList.length = ks.length := by rw [Array.length_toList, hacc.1]; exact l1
    have e0 : (L.map fun q => Value.ref q.1) = ks.map fun x => Value.ref x.2.1 := by
      have := congrArg (List.map Value.ref) eb
      rw [List.map_map, List.map_map] at this
      exact this.symm
    rw [e0]
    apply List.ext_getElem?
    intro j
    rw [List.getElem?_map]
    cases hj : acc.toList[j]? with
    | none =>
      have h1 := List.getElem?_eq_none_iff.mp hj
      rw [List.getElem?_eq_none (by omega)]
      rfl
    | some v =>
      obtain ⟨en, hen, hv⟩ := hacc.2 j v (by rw [← Array.getElem?_toList]; exact hj)
      have qe := entry_at he j
      rw [hen] at qe
      cases hb : ks[j]? with
      | none =>
        rw [hb] at qe
        exact nomatch (show some en = none from qe)
      | some b =>
        rw [hb] at qe
        have e2 : en = entryOfKey (tupleKind (mixKind X.prog X.w)) b := Option.some.inj qe
        rw [hv, e2]
        rfl
  have lL : L.length = kvs.length := by
    have := congrArg List.length eb
    rw [List.length_map, List.length_map] at this
    omega
  have lacc : acc.toList.length = L.length := by rw [ea, List.length_map]
  refine wpAny_bind (wpAny_newList ?_ (by rw [lacc, lL]; exact z))
  have I2 : Inv X pins σ H { s with heap := h', toks := tk } := I.kept (t' := tk) hk
  have hoL : (h'.push (seqObj "list" acc.toList.toArray 0)).get? h'.objs.size = some (seqObj "list" acc.toList.toArray 0) := Heap.get?_push_size _ rfl
  have tk1 : ∀ q ∈ L, Reads (h'.push (seqObj "list" acc.toList.toArray 0)) (.ref q.1) (encA q) [] := fun q hq => by
    obtain ⟨its, rv, ⟨ob, hob, hcc, n, hdd⟩, _⟩ := I2.tuple (SqT.of (K := X.K) (hL q hq))
    have hob' : h'.get? q.1 = some ob := hob
    exact .tuple (Heap.get?_push_of_some _ hob') hcc hdd (by simpa using reads_ints rv.ints)
  have e1 : EachIs (fun v (q : Addr × List Int) => v = Value.ref q.1) acc.toList L := by rw [ea]; exact each_map' fun q _ => rfl
  have e2 : EachIs (fun v q => ∃ as, Reads (h'.push (seqObj "list" acc.toList.toArray 0)) v (encA q) as ∧ h'.objs.size ∉ as) acc.toList L := by
    have : EachIs (fun v q => ∃ as, Reads (h'.push (seqObj "list" acc.toList.toArray 0)) v (encA q) as ∧ h'.objs.size ∉ as) (L.map fun q => Value.ref q.1) L := each_map' fun q hq => ⟨[], tk1 q hq, by simp⟩
    rw [← ea] at this
    exact this
  have hal : AllAlike (L.map encA) := AllAlike.of fun b b' => by
    unfold encA L3.ptup
    simp only [PySem.W.alike]
    exact L3.alike_ints _ _
  have hsort : Sortable (L.map encA) := .inl fun dd hdd => by
    obtain ⟨b, hb, rfl⟩ := List.mem_map.mp hdd
    have := hne b.2 (by rw [et]; exact List.mem_map.mpr ⟨b, hb, rfl⟩)
    cases q : b.2 with
    | nil => exact absurd q this
    | cons n r => exact ⟨.int n, r.map .int, by unfold encA L3.ptup; rw [q]; rfl⟩
  refine wpAny_bind (wpAny_holding (list_sort_data (s := { s with heap := h'.push (seqObj "list" acc.toList.toArray 0), toks := tk }) (enc := encA) hoL e1 e2 hal hsort (by rw [lL]; exact z) (fun b _ => ?_) fun out hlen eo => ?_))
  · have : (encA b).depth ≤ 1 := by
      unfold encA L3.ptup
      simp only [PyData.depth, L3.depth_ints]
      decide
    show X.A.units + 1 + 1 + _ < _
    omega
  obtain ⟨c, hc2⟩ := sortedHeap_at (vs := acc.toList) (out := List.toArray out) hoL
  obtain ⟨pm2, asc⟩ := asc_mergeA L
  have eout := each_refs eo
  have hn0 : H h'.objs.size = none := I2.hok.fresh (Nat.le_refl _)
  have hv : Vals ((L.mergeSort (PySem.W.dataLe false encA)).map fun q => V.ref q.1) out := by rw [eout]; exact vals_of_refs _
  have hlen2 : ((L.mergeSort (PySem.W.dataLe false encA)).map fun q => V.ref q.1).length ≤ sizeLine := by rw [List.length_map, List.length_mergeSort, lL]; exact z
  refine wpAny_pure ⟨_, rfl, ?_⟩
  refine ⟨.ref h'.objs.size, upd H h'.objs.size (.lst ((L.mergeSort (PySem.W.dataLe false encA)).map fun q => V.ref q.1)), I2.laid (t' := tk) (fun b u e => ?_) (Nat.le_refl _) ⟨hlen2, out, c, hv, hc2⟩, rfl, q _ _ (fun z hz => hL z (pm2.mem_iff.mp hz)) (by rw [et]; exact pm2.map (·.2)) asc hn0⟩
  have e' : h'.get? b = some u := e
  have hlt := Heap.lt_size e'
  show (sortedHeap (h'.push (seqObj "list" acc.toList.toArray 0)) h'.objs.size acc.toList (List.toArray out)).get? b = some u
  rw [sortedHeap_old (Nat.ne_of_lt hlt) (by rw [size_push']; exact Nat.lt_succ_of_lt hlt)]
  exact Heap.get?_push_of_some _ e'
end L2
set_option maxHeartbeats 4000000
namespace L3
open PySem L2 RZ
/-! ### a dict with tuples of ints as keys that the def owns -/
abbrev TM := List (List Int × Dat)
def getT (m : TM) (k : List Int) : Option Dat := (m.find? fun p => decide (p.1 = k)).map (·.2)
def putT (m : TM) (k : List Int) (d : Dat) : TM := if (m.any fun p => decide (p.1 = k)) = true then m.map (fun p => if p.1 = k then (p.1, d) else p) else m ++ [(k, d)]
def inK (k : List Int) : List Key := k.map Sum.inl
theorem inK_inj : ∀ {a b : List Int}, inK a = inK b → a = b
  | [], [], _ => rfl
  | [], _ :: _, h => by cases h
  | _ :: _, [], h => by cases h
  | x :: a, y :: b, h => by
    unfold inK at h
    simp only [List.map_cons, List.cons.injEq] at h
    obtain ⟨h1, h2⟩ := h
    cases h1
    rw [inK_inj h2]
structure DT (C : Addr) (Hk H : Hp) (d : Addr) (m : TM) (kvs : List (List Key × V)) : Prop where
  at_ : H d = some (.dT kvs)
  ks : kvs.map (·.1) = m.map (fun p => inK p.1)
  vs : RpL C Hk (m.map (·.2)) (kvs.map (·.2))
section
variable {C : Addr} {Hk H Hk' H' : Hp} {d b : Addr} {m : TM} {kvs : List (List Key × V)} {k : List Int} {x : Dat} {v : V}
theorem DT.nx (t : DT C Hk H d m kvs) (n : Nx Hk H Hk' H') : DT C Hk' H' d m kvs := ⟨n.hh _ _ t.at_, t.ks, t.vs.mono n.kk⟩
theorem DT.len (t : DT C Hk H d m kvs) : kvs.length = m.length := by have := congrArg List.length t.ks; rwa [List.length_map, List.length_map] at this
theorem getT_val {Hk : Hp} {k : List Int} : ∀ {m : TM} {kvs : List (List Key × V)} {x : Dat}, kvs.map (·.1) = m.map (fun p => inK p.1) → RpL C Hk (m.map (·.2)) (kvs.map (·.2)) → getT m k = some x → ∃ v, valV kvs (inK k) = some v ∧ Rp C Hk x v
  | [], kvs, x, _, _, e => by cases e
  | (k0, x0) :: m, [], x, h, _, e => by cases h
  | (k0, x0) :: m, (kk, vv) :: kvs, x, h, r, e => by
    simp only [List.map_cons, List.cons.injEq] at h r
    obtain ⟨h1, h2⟩ := h
    obtain ⟨y, t, e1, r1, r2⟩ := r.cons
    simp only [List.cons.injEq] at e1
    obtain ⟨rfl, e2⟩ := e1
    rw [← e2] at r2
    subst h1
    unfold getT at e
    rw [List.find?_cons] at e
    by_cases z : k0 = k
    · rw [decide_eq_true z] at e
      cases e
      subst z
      exact ⟨vv, valV_pos rfl, r1⟩
    · rw [decide_eq_false z] at e
      obtain ⟨v, q1, q2⟩ := getT_val (m := m) h2 r2 e
      refine ⟨v, ?_, q2⟩
      have ne : ¬ inK k0 = inK k := fun q => z (inK_inj q)
      unfold valV at q1 ⊢
      rw [List.find?_cons, decide_eq_false ne]
      exact q1
theorem DT.get (t : DT C Hk H d m kvs) (e : getT m k = some x) (hb : H b = some (.tup (k.map V.int))) : ∃ v, DGet H d (.ref b) (some v) ∧ Rp C Hk x v := by
  obtain ⟨v, h1, h2⟩ := getT_val t.ks t.vs e
  have hb' : H b = some (.tup ((inK k).map kV)) := by unfold inK; rw [map_kV]; exact hb
  exact ⟨v, h1 ▸ DGet.t t.at_ hb', h2⟩
theorem anyT {k : List Int} : ∀ {m : TM} {kvs : List (List Key × V)}, kvs.map (·.1) = m.map (fun p => inK p.1) → (kvs.any fun kv => decide (kv.1 = inK k)) = m.any fun p => decide (p.1 = k)
  | [], [], _ => rfl
  | [], _ :: _, h => by cases h
  | _ :: _, [], h => by cases h
  | (k0, x0) :: m, (kk, vv) :: kvs, h => by
    simp only [List.map_cons, List.cons.injEq] at h
    obtain ⟨h1, h2⟩ := h
    rw [List.any_cons, List.any_cons, anyT (m := m) h2]
    have : decide (kk = inK k) = decide (k0 = k) := by
      rw [h1]
      by_cases z : k0 = k
      · rw [z]; simp
      · rw [decide_eq_false z, decide_eq_false fun q => z (inK_inj q)]
    rw [this]
theorem mapT {k : List Int} {x : Dat} {v : V} (rx : Rp C Hk x v) : ∀ {m : TM} {kvs : List (List Key × V)}, kvs.map (·.1) = m.map (fun p => inK p.1) → RpL C Hk (m.map (·.2)) (kvs.map (·.2)) →
    (kvs.map (fun kv => if kv.1 = inK k then (kv.1, v) else kv)).map (·.1) = (m.map (fun p => if p.1 = k then (p.1, x) else p)).map (fun p => inK p.1) ∧ RpL C Hk ((m.map (fun p => if p.1 = k then (p.1, x) else p)).map (·.2)) ((kvs.map (fun kv => if kv.1 = inK k then (kv.1, v) else kv)).map (·.2))
  | [], [], _, _ => ⟨rfl, rpl_nil⟩
  | [], _ :: _, h, _ => by cases h
  | _ :: _, [], h, _ => by cases h
  | (k0, x0) :: m, (kk, vv) :: kvs, h, r => by
    simp only [List.map_cons, List.cons.injEq] at h r
    obtain ⟨h1, h2⟩ := h
    obtain ⟨y, t, e1, r1, r2⟩ := r.cons
    simp only [List.cons.injEq] at e1
    obtain ⟨rfl, e2⟩ := e1
    rw [← e2] at r2
    obtain ⟨q1, q2⟩ := mapT rx h2 r2
    have hk' : ∀ y : List Int × Dat, ((if (k0, x0).1 = k then ((k0, x0).1, x) else (k0, x0)) = y) → ∀ z : List Key × V, ((if (kk, vv).1 = inK k then ((kk, vv).1, v) else (kk, vv)) = z) → inK y.1 = z.1 → Rp C Hk y.2 z.2 →
        (((kk, vv) :: kvs).map (fun kv => if kv.1 = inK k then (kv.1, v) else kv)).map (·.1) = (((k0, x0) :: m).map (fun p => if p.1 = k then (p.1, x) else p)).map (fun p => inK p.1) ∧ RpL C Hk ((((k0, x0) :: m).map (fun p => if p.1 = k then (p.1, x) else p)).map (·.2)) ((((kk, vv) :: kvs).map (fun kv => if kv.1 = inK k then (kv.1, v) else kv)).map (·.2)) := fun y hy z hz e1 e2 => by
      simp only [List.map_cons]
      simp only at hy hz
      rw [hy, hz, q1, e1]
      exact ⟨rfl, rpl_cons e2 q2⟩
    by_cases z : k0 = k
    · subst z
      exact hk' (k0, x) (if_pos rfl) (kk, v) (if_pos h1) h1.symm rx
    · have ne : ¬ kk = inK k := fun q => z (inK_inj (h1.symm.trans q))
      exact hk' (k0, x0) (if_neg z) (kk, vv) (if_neg ne) h1.symm r1
theorem DT.put (t : DT C Hk H d m kvs) (r : Rp C Hk x v) : DT C Hk (upd H d (.dT (putK kvs (inK k) v))) d (putT m k x) (putK kvs (inK k) v) := by
  refine ⟨upd_same, ?_, ?_⟩
  · unfold putK putT
    rw [anyT t.ks]
    by_cases z : (m.any fun p => decide (p.1 = k)) = true
    · rw [if_pos z, if_pos z]; exact (mapT r t.ks t.vs).1
    · rw [if_neg z, if_neg z, List.map_append, List.map_append, t.ks]; rfl
  · unfold putK putT
    rw [anyT t.ks]
    by_cases z : (m.any fun p => decide (p.1 = k)) = true
    · rw [if_pos z, if_pos z]; exact (mapT r t.ks t.vs).2
    · rw [if_neg z, if_neg z, List.map_append, List.map_append]; exact t.vs.append (rpl_cons r rpl_nil)
end
/-! {k: v for ..} -/
def dcGo (gt : Dat → En → Option En) (fk fv : En → Option Dat) (ρ : En) : List Dat → TM → Option TM
  | [], m => some m
  | d :: ds, m => (gt d ρ).bind fun ρ1 => (fk ρ1).bind fun k => (tupOfI k).bind fun t => (fv ρ1).bind fun x => dcGo gt fk fv ρ ds (putT m t x)
def fDc (it : En → Option (List Dat)) (gt : Dat → En → Option En) (fk fv : En → Option Dat) (vs : List Nat) : En → Option TM := fun ρ => (it ρ).bind fun ds => if ds.length ≤ 100000 then dcGo gt fk fv (wipeE ρ vs) ds [] else none
def OkD (C : Addr) (t : TE) (f : En → Option TM) : Prop := ∀ (Hk H : Hp) (σ : L2.St) (ρ : En) (m : TM), Rel C Hk H σ ρ → f ρ = some m → ∀ Q : VK, (∀ p kvs Hk' H', Nx Hk H Hk' H' → H p = none → Hk' p = none → DT C Hk' H' p m kvs → Q (.ref p) H') → t σ H Q
theorem putT_len (m : TM) (k : List Int) (x : Dat) : (putT m k x).length ≤ m.length + 1 := by
  unfold putT
  split
  · rw [List.length_map]; omega
  · rw [List.length_append]; exact Nat.le_refl _
theorem ok_dc {C : Addr} {wi : TI} {g : TG} {tk tv : TE} {fi : En → Option (List Dat)} {gt : Dat → En → Option En} {fk fv : En → Option Dat} {vs ws : List Nat} (hws : ∀ j ∈ ws, j ∈ vs) (hi : OkIw C wi fi) (og : OkG C ws g gt) (ok : OkE C tk fk) (ov : OkE C tv fv) :
    OkD C (tDcT wi g tYes tk tv vs) (fDc fi gt fk fv vs) := fun Hk H σ ρ out r e Q q => by
  unfold fDc at e
  obtain ⟨ds, e1, e⟩ := Option.bind_eq_some_iff.mp e
  split at e
  · rename_i hz
    refine hi Hk H σ ρ ds r e1 _ fun J Hk1 H1 n1 W => ?_
    intro D hD
    have r1 := r.nx n1
    let Iv : Nat → Hp → Prop := fun i H' => ∃ Hk' m kvs, Le Hk1 Hk' ∧ Le Hk' H' ∧ Le H1 H' ∧ (∀ l, Hk1 l = none → H1 l ≠ none → Hk' l = none) ∧ Hk' D = none ∧ DT C Hk' H' D m kvs ∧ m.length ≤ i ∧ dcGo gt fk fv (wipeE ρ vs) (ds.drop i) m = some out
    refine ⟨fun i m H' => m = ds.length - i ∧ i ≤ ds.length ∧ Iv i H', ⟨ds.length, by simp, Nat.zero_le _, Hk1, [], [], Le.refl _, n1.kh.trans (Le.new hD), Le.new hD, fun _ h _ => h, n1.kh.free hD, ⟨upd_same, rfl, rpl_nil⟩, Nat.le_refl _, e⟩, ?_⟩
    rintro i _ H' ⟨rfl, hi', Hk', m, kvs, k1, k2, k3, k4, k5, t, hm, hgo⟩
    by_cases hlt : i < ds.length
    · refine .inr ⟨W.go i _ hlt k3, Iv (i + 1), fun H2 p => ⟨ds.length - (i + 1), by omega, rfl, hlt, p⟩, fun x H2 y => ?_⟩
      obtain ⟨d, Hk2, e2, n2, rd⟩ := W.yld i _ x H2 hlt k3 y Hk' k1 k2
      have edrop : ds.drop i = d :: ds.drop (i + 1) := by
        rw [List.drop_eq_getElem_cons hlt]
        have : ds[i]? = some ds[i] := List.getElem?_eq_getElem hlt
        rw [this] at e2; cases e2; rfl
      rw [edrop] at hgo
      obtain ⟨ρ1, e3, hgo⟩ := Option.bind_eq_some_iff.mp (show (gt d (wipeE ρ vs)).bind _ = some out from hgo)
      obtain ⟨kd, e4, hgo⟩ := Option.bind_eq_some_iff.mp hgo
      obtain ⟨kt, e5, hgo⟩ := Option.bind_eq_some_iff.mp hgo
      obtain ⟨xd, e6, hgo⟩ := Option.bind_eq_some_iff.mp hgo
      have rel : Rel C Hk2 H2 (wipe σ vs) (wipeE ρ vs) := ((r1.nx (Hk' := Hk') (H' := H') ⟨k1, k3, k2, k4⟩).nx n2).wipe vs
      refine og Hk2 H2 _ _ ρ1 d x rel rd e3 _ fun σ2 r2 l2 kk2 o2 => ?_
      refine ⟨wipe_agree (by rw [l2, wipe_length]) fun j hj => kk2 j fun z => hj (hws j z), ?_⟩
      dsimp only [tYes]
      rw [if_pos rfl]
      refine ok Hk2 H2 σ2 ρ1 kd r2 e4 _ fun y3 Hk3 H3 n3 r3 => ?_
      refine ov Hk3 H3 σ2 ρ1 xd (r2.nx n3) e6 _ fun y4 Hk4 H4 n4 r4 => ?_
      rw [tupOfI_map e5] at r3
      obtain ⟨b, ys, rfl, b1, b2⟩ := (show Rp C Hk3 (.tup (kt.map Dat.int)) y3 from r3).tup
      rw [b2.ints] at b1
      have n24 := (n2.trans n3).trans n4
      have t4 := t.nx n24
      have bb : H4 b = some (.tup ((inK kt).map kV)) := by unfold inK; rw [map_kV]; exact n4.hh _ _ (n3.kh _ _ b1)
      have d4 : Hk4 D = none := n24.sp D k5 (by rw [t.at_]; intro z; cases z)
      refine ⟨kvs, inK kt, b, rfl, bb, t4.at_, sz_lt (by rw [t.len]; omega), Hk4, putT m kt xd, _, k1.trans n24.kk, le_out n24.kh d4, fun l o h => ?_, fun l h1 h2 => n24.sp l (k4 l h1 h2) fun z => h2 (k3.free z), d4, t4.put r4, Nat.le_trans (putT_len m kt xd) (by omega), hgo⟩
      have z : l ≠ D := fun z => by subst z; rw [hD] at h; cases h
      rw [upd_ne z]
      exact n24.hh _ _ (k3 _ _ h)
    · have ei : i = ds.length := by omega
      subst ei
      rw [List.drop_length] at hgo
      cases hgo
      exact .inl ⟨W.stop _ k3, q D kvs Hk' H' (n1.trans ⟨k1, k3, k2, k4⟩) (n1.hh.free hD) k5 t⟩
  · cases e
/-! ### class_list -/
/-- what is there while it runs: the dict at d, the list at f -/
structure CLI (C : Addr) (Hk0 H0 Hk H : Hp) (d f : Addr) (m : TM) (fs : List Dat) : Prop where
  kk : Le Hk0 Hk
  kh : Le Hk H
  fr : Le H0 H
  sp : ∀ l, Hk0 l = none → H0 l ≠ none → Hk l = none
  ne : d ≠ f
  kd : Hk d = none
  kf : Hk f = none
  fd : H0 d = none
  ff : H0 f = none
  dt : ∃ kvs, DT C Hk H d m kvs
  fl : ∃ xs, H f = some (.lst xs) ∧ RpL C Hk fs xs
section
variable {C : Addr} {Hk0 H0 Hk H Hk' H' : Hp} {d f b : Addr} {m : TM} {fs : List Dat} {x : Dat} {v : V} {k : List Int}
theorem CLI.nx (c : CLI C Hk0 H0 Hk H d f m fs) (n : Nx Hk H Hk' H') : CLI C Hk0 H0 Hk' H' d f m fs where
  kk := c.kk.trans n.kk
  kh := n.kh
  fr := c.fr.trans n.hh
  sp := fun l e z => n.sp l (c.sp l e z) fun w => z (c.fr.free w)
  ne := c.ne
  kd := by obtain ⟨_, t⟩ := c.dt; exact n.sp d c.kd (by rw [t.at_]; intro z; cases z)
  kf := by obtain ⟨_, t, _⟩ := c.fl; exact n.sp f c.kf (by rw [t]; intro z; cases z)
  fd := c.fd
  ff := c.ff
  dt := let ⟨kvs, t⟩ := c.dt; ⟨kvs, t.nx n⟩
  fl := let ⟨xs, h1, h2⟩ := c.fl; ⟨xs, n.hh _ _ h1, h2.mono n.kk⟩
theorem CLI.get (c : CLI C Hk0 H0 Hk H d f m fs) (e : getT m k = some x) (hb : H b = some (.tup (k.map V.int))) : ∃ v, DGet H d (.ref b) (some v) ∧ Rp C Hk x v := let ⟨_, t⟩ := c.dt; t.get e hb
theorem CLI.put (c : CLI C Hk0 H0 Hk H d f m fs) (r : Rp C Hk x v) (hb : H b = some (.tup (k.map V.int))) (hl : m.length < 100000) : ∃ H', DPut H d (.ref b) v H' ∧ CLI C Hk0 H0 Hk H' d f (putT m k x) fs := by
  obtain ⟨kvs, t⟩ := c.dt
  have hb' : H b = some (.tup ((inK k).map kV)) := by unfold inK; rw [map_kV]; exact hb
  refine ⟨_, DPut.t t.at_ hb' (by rw [t.len]; exact sz_lt hl), c.kk, le_out c.kh c.kd, le_out c.fr c.fd, c.sp, c.ne, c.kd, c.kf, c.fd, c.ff, ⟨_, t.put r⟩, ?_⟩
  obtain ⟨xs, h1, h2⟩ := c.fl
  exact ⟨xs, by rw [upd_ne (Ne.symm c.ne)]; exact h1, h2⟩
theorem CLI.app (c : CLI C Hk0 H0 Hk H d f m fs) {xs : List V} (h1 : H f = some (.lst xs)) (h2 : RpL C Hk fs xs) (r : Rp C Hk x v) : CLI C Hk0 H0 Hk (upd H f (.lst (xs ++ [v]))) d f m (fs ++ [x]) := by
  obtain ⟨kvs, t⟩ := c.dt
  exact ⟨c.kk, le_out c.kh c.kf, le_out c.fr c.ff, c.sp, c.ne, c.kd, c.kf, c.fd, c.ff, ⟨kvs, by rw [upd_ne c.ne]; exact t.at_, t.ks, t.vs⟩, ⟨_, upd_same, h2.append (rpl_cons r rpl_nil)⟩⟩
end
def killAll (P : List Dat → Option Dat) : List Dat → TM → Option TM
  | [], m => some m
  | f :: fs, m => (P [f]).bind fun k => (tupOfI k).bind fun t => if m.length < 100000 then killAll P fs (putT m t .non) else none
def clGo (P R : List Dat → Option Dat) : List (List Int) → TM → List Dat → Option (List Dat)
  | [], _, fs => some fs
  | k :: ks, m, fs => (getT m k).bind fun x => match x with
    | .non => clGo P R ks m fs
    | .frm a b c => if fs.length < 100000 then (R [.frm a b c]).bind fun r => match r with
      | .lst gs => (killAll P gs m).bind fun m' => clGo P R ks m' (fs ++ [.frm a b c])
      | _ => none else none
    | _ => none
abbrev tLeft (K : PySem.W.Frag) (C : Addr) (R : List Dat → Option Dat) : TI := iList K (tDef C 1 R (tCons (tDGet (tVar 1) (tVar 4)) tNil))
abbrev tKill (C : Addr) (P : List Dat → Option Dat) : TS := sDPut (tVar 1) (tPropD C P (tVar 2)) (tC .non)
abbrev tClB (K : PySem.W.Frag) (C : Addr) (P R : List Dat → Option Dat) : TS := tIfS (tB (tNotN (tDGet (tVar 1) (tVar 4)))) (tSeq (tDrop (tBM K "list" rAppend (tVar 3) (tCons (tDGet (tVar 1) (tVar 4)) tNil))) (tFor (tLeft K C R) (gName 2) (tKill C P))) tNext
abbrev tClF (K : PySem.W.Frag) (C : Addr) (P R : List Dat → Option Dat) : TS := tFor (iList K (tCB (rSortedDT K) (tCons (tVar 1) tNil))) (gName 4) (tClB K C P R)
def neB (ks : List (List Int)) : Bool := ks.all fun t => !t.isEmpty
def s_clF (P R : List Dat → Option Dat) (m : TM) : Option (List Dat) := if neB (m.map (·.1)) then clGo P R (sortT (m.map (·.1))) m [] else none
section
variable {C : Addr} {K : PySem.W.Frag} {P R : List Dat → Option Dat} {Hk0 H0 Hk H : Hp} {d f : Addr} {σ : L2.St} {E : Ends}
theorem slot_ne {σ : L2.St} {i j : Nat} {v : V} (h : i ≠ j) : (σ.set i (some v))[j]? = σ[j]? := List.getElem?_set_ne h
/-- for form in gs: left[form.coefficients] = None -/
theorem ok_kill {fs : List Dat} {out : TM} {keep : Hp → Prop} (hP : ∀ a b c (Hk H : Hp) (σ : L2.St) (v : V) (r : Dat), Le Hk H → σ[2]? = some (some v) → Rp C Hk (.frm a b c) v → P [.frm a b c] = some r → ∀ Q : VK, (∀ u Hk' H', Nx Hk H Hk' H' → Rp C Hk' r u → Q u H') → tPropD C P (tVar 2) σ H Q)
    (hPf : ∀ g : Dat, (∀ a b c, g ≠ .frm a b c) → ¬ (∃ kd, P [g] = some kd)) (hk1 : ∀ Hk H Hk' H', keep H → Nx Hk H Hk' H' → keep H') (hk2 : ∀ H o, keep H → keep (upd H d o))
    {gs : List Dat} {m : TM} {a : Addr} {xs : List V} (hl : 3 < σ.length) (h1 : σ[1]? = some (some (.ref d))) (c : CLI C Hk0 H0 Hk H d f m fs) (ha : Hk a = some (.lst xs)) (hx : RpL C Hk gs xs) (e : killAll P gs m = some out) (kp : keep H)
    (q : ∀ σ' Hk' H', Le Hk Hk' → (∀ j, j ≠ 2 → σ'[j]? = σ[j]?) → σ'.length = σ.length → CLI C Hk0 H0 Hk' H' d f out fs → keep H' → E.nx σ' H') :
    ∃ W : Nat → Nat → L2.St → Hp → Prop, (∃ m, W 0 m σ H) ∧ ∀ i m σ' H', W i m σ' H' →
      ((Itl K a).stop i H' ∧ E.nx σ' H') ∨ ((Itl K a).go i H' ∧ ∃ N : L2.St → Hp → Prop, (∀ σ2 H2, N σ2 H2 → ∃ m', m' < m ∧ W (i + 1) m' σ2 H2) ∧ ∀ x H2, (Itl K a).yld i H' x H2 → gName 2 x σ' H2 fun σ3 H3 => tKill C P { E with nx := N, ct := N, bk := E.nx } σ3 H3) := by
  have lx : xs.length = gs.length := hx.length
  let Pv : Nat → L2.St → Hp → Prop := fun i σ' H' => ∃ Hk' m', Le Hk Hk' ∧ CLI C Hk0 H0 Hk' H' d f m' fs ∧ killAll P (gs.drop i) m' = some out ∧ (∀ j, j ≠ 2 → σ'[j]? = σ[j]?) ∧ σ'.length = σ.length ∧ keep H'
  refine ⟨fun i m σ' H' => m = gs.length - i ∧ i ≤ gs.length ∧ Pv i σ' H', ⟨gs.length, by simp, Nat.zero_le _, Hk, m, Le.refl _, c, e, fun _ _ => rfl, rfl, kp⟩, ?_⟩
  rintro i _ σ' H' ⟨rfl, hi, Hk', m', k1, c', hgo, hs, hlen, kp'⟩
  have hat : H' a = some (.lst xs) := c'.kh _ _ (k1 _ _ ha)
  by_cases hlt : i < gs.length
  · refine .inr ⟨⟨xs, xs[i], SqL.of hat, by simp [lx, hlt]⟩, Pv (i + 1), fun σ2 H2 p => ⟨gs.length - (i + 1), by omega, rfl, hlt, p⟩, ?_⟩
    rintro x H2 ⟨eH, hx2⟩
    have eH' := eH.symm
    subst eH'
    have hxi := hx2 xs (SqL.of hat)
    obtain ⟨g, hg1, rg⟩ := hx.get' hxi
    have edrop : gs.drop i = g :: gs.drop (i + 1) := by
      rw [List.drop_eq_getElem_cons hlt]
      have : gs[i]? = some gs[i] := List.getElem?_eq_getElem hlt
      rw [this] at hg1; cases hg1; rfl
    rw [edrop] at hgo
    obtain ⟨kd, e1, hgo⟩ := Option.bind_eq_some_iff.mp (show (P [g]).bind _ = some out from hgo)
    obtain ⟨kt, e2, hgo⟩ := Option.bind_eq_some_iff.mp hgo
    split at hgo
    · rename_i hlm
      show tKill C P _ (σ'.set 2 (some x)) H'
      have g2 : (σ'.set 2 (some x))[2]? = some (some x) := List.getElem?_set_self (by omega)
      have g1 : (σ'.set 2 (some x))[1]? = some (some (.ref d)) := (slot_ne (by decide)).trans ((hs 1 (by decide)).trans h1)
      refine ⟨.ref d, g1, ?_⟩
      have rg' := rg.mono k1
      have fin : ∀ u Hk2 H2, Nx Hk' H' Hk2 H2 → Rp C Hk2 kd u → ∃ a' H4, (V.ref d : V) = .ref a' ∧ DPut H2 a' u .non H4 ∧ Pv (i + 1) (σ'.set 2 (some x)) H4 := fun u Hk2 H2 n2 ru => by
        rw [tupOfI_map e2] at ru
        obtain ⟨b, ys, rfl, b1, b2⟩ := (show Rp C Hk2 (.tup (kt.map Dat.int)) u from ru).tup
        rw [b2.ints] at b1
        obtain ⟨H4, p1, p2⟩ := (c'.nx n2).put (x := .non) (v := .non) (k := kt) rp_non (n2.kh _ _ b1) hlm
        refine ⟨d, H4, rfl, p1, Hk2, _, k1.trans n2.kk, p2, hgo, fun j hj => (slot_ne (Ne.symm hj)).trans (hs j hj), by rw [List.length_set]; exact hlen, ?_⟩
        obtain ⟨_, _, h1', h2', _⟩ | ⟨kvs', _, b', h1', h2', _, _, h5'⟩ := p1
        · obtain ⟨kvs0, t0⟩ := (c'.nx n2).dt
          rw [t0.at_] at h1'; cases h1'
        · rw [h5']; exact hk2 _ _ (hk1 _ _ _ _ kp' n2)
      -- the form
      have hfrm : ∃ a b c, g = .frm a b c := by
        cases g with
        | frm a b c => exact ⟨a, b, c, rfl⟩
        | _ => exact absurd ⟨kd, e1⟩ (hPf _ (fun _ _ _ z => nomatch z))
      obtain ⟨a0, b0, c0, rfl⟩ := hfrm
      exact hP a0 b0 c0 Hk' H' _ x kd c'.kh g2 rg' e1 _ fun u Hk2 H2 n2 ru => fin u Hk2 H2 n2 ru
    · cases hgo
  · have ei : i = gs.length := by omega
    subst ei
    rw [List.drop_length] at hgo
    cases hgo
    exact .inl ⟨⟨xs, SqL.of hat, by omega⟩, q σ' Hk' H' k1 hs hlen c' kp'⟩
theorem getT_mem {m : TM} {k : List Int} {x : Dat} (h : getT m k = some x) : True := trivial
theorem ok_clF {out : List Dat} {m : TM}
    (hPf : ∀ g : Dat, (∀ a b c, g ≠ .frm a b c) → ¬ (∃ kd, P [g] = some kd))
    (hP : ∀ a b c (Hk H : Hp) (σ : L2.St) (v : V) (r : Dat), Le Hk H → σ[2]? = some (some v) → Rp C Hk (.frm a b c) v → P [.frm a b c] = some r → ∀ Q : VK, (∀ u Hk' H', Nx Hk H Hk' H' → Rp C Hk' r u → Q u H') → tPropD C P (tVar 2) σ H Q)
    (hl : σ.length = 5) (h1 : σ[1]? = some (some (.ref d))) (h3 : σ[3]? = some (some (.ref f))) (c : CLI C Hk0 H0 Hk H d f m []) (e : s_clF P R m = some out)
    (q : ∀ σ' Hk' H' m', σ'[3]? = some (some (.ref f)) → CLI C Hk0 H0 Hk' H' d f m' out → E.nx σ' H') : tClF K C P R E σ H := by
  unfold s_clF at e
  split at e
  · rename_i hne
    obtain ⟨kvs, t⟩ := c.dt
    refine ⟨.ref d, h1, d, kvs, m.map (·.1), rfl, t.at_, by rw [t.ks, List.map_map]; rfl, fun tt ht z => ?_, fun zs p hz pm asc hp => ?_⟩
    · have := List.all_eq_true.mp hne tt ht
      rw [z] at this
      cases this
    · have ekeys : zs.map (·.2) = sortT (m.map (·.1)) := sortT_of pm asc
      rw [← ekeys] at e
      let xs : List V := zs.map fun z => V.ref z.1
      have lxs : xs.length = zs.length := List.length_map ..
      let keep : Hp → Prop := fun H' => H' p = some (.lst xs) ∧ ∀ z ∈ zs, H' z.1 = some (.tup (z.2.map V.int))
      have np : Nx Hk H Hk (upd H p (.lst xs)) := Nx.own c.kh hp
      have dp : d ≠ p := fun z => by rw [z] at t; have := t.at_; rw [hp] at this; cases this
      have kp0 : keep (upd H p (.lst xs)) := ⟨upd_same, fun z hzm => np.hh _ _ (hz z hzm)⟩
      have fne : ∀ H', keep H' → (∃ ys, H' f = some (.lst ys)) → True := fun _ _ _ => trivial
      have keep1 : ∀ Hk H Hk' H', keep H → Nx Hk H Hk' H' → keep H' := fun _ _ _ _ k n => ⟨n.hh _ _ k.1, fun z hzm => n.hh _ _ (k.2 z hzm)⟩
      have dz : ∀ z ∈ zs, d ≠ z.1 := fun z hzm e0 => by
        have := hz z hzm
        rw [← e0, t.at_] at this
        cases this
      have fp : f ≠ p := fun z => by
        obtain ⟨ys, h, _⟩ := c.fl
        rw [z, hp] at h; cases h
      have fz : ∀ z ∈ zs, f ≠ z.1 := fun z hzm e0 => by
        obtain ⟨ys, h, _⟩ := c.fl
        have := hz z hzm
        rw [← e0, h] at this
        cases this
      have keep2 : ∀ H o, keep H → keep (upd H d o) := fun H o k => ⟨by rw [upd_ne (Ne.symm dp)]; exact k.1, fun z hzm => by rw [upd_ne (Ne.symm (dz z hzm))]; exact k.2 z hzm⟩
      have keep3 : ∀ H o, keep H → keep (upd H f o) := fun H o k => ⟨by rw [upd_ne (Ne.symm fp)]; exact k.1, fun z hzm => by rw [upd_ne (Ne.symm (fz z hzm))]; exact k.2 z hzm⟩
      refine ⟨p, rfl, ⟨xs, SqL.of upd_same⟩, ?_⟩
      let Pv : Nat → L2.St → Hp → Prop := fun i σ' H' => ∃ Hk' m' fs', CLI C Hk0 H0 Hk' H' d f m' fs' ∧ keep H' ∧ σ'.length = 5 ∧ σ'[1]? = some (some (.ref d)) ∧ σ'[3]? = some (some (.ref f)) ∧ clGo P R ((zs.drop i).map (·.2)) m' fs' = some out
      refine ⟨fun i m σ' H' => m = zs.length - i ∧ i ≤ zs.length ∧ Pv i σ' H', ⟨zs.length, by simp, Nat.zero_le _, Hk, m, [], c.nx np, kp0, hl, h1, h3, e⟩, ?_⟩
      rintro i _ σ' H' ⟨rfl, hi, Hk', m', fs', c', kp, hl', g1, g3, hgo⟩
      by_cases hlt : i < zs.length
      · refine .inr ⟨⟨xs, xs[i], SqL.of kp.1, by simp [lxs, hlt]⟩, Pv (i + 1), fun σ2 H2 p => ⟨zs.length - (i + 1), by omega, rfl, hlt, p⟩, ?_⟩
        rintro x H2 ⟨eH, hx2⟩
        have eH' := eH.symm
        subst eH'
        have hxi := hx2 xs (SqL.of kp.1)
        have hzi : zs[i]? = some zs[i] := List.getElem?_eq_getElem hlt
        have ex : x = V.ref zs[i].1 := by
          rw [List.getElem?_map, hzi] at hxi
          cases hxi; rfl
        subst ex
        have hb := kp.2 zs[i] (List.getElem_mem hlt)
        have edrop : (zs.drop i).map (·.2) = zs[i].2 :: (zs.drop (i + 1)).map (·.2) := by
          rw [List.drop_eq_getElem_cons hlt]; rfl
        rw [edrop] at hgo
        obtain ⟨xd, e1, hgo⟩ := Option.bind_eq_some_iff.mp (show (getT m' zs[i].2).bind _ = some out from hgo)
        obtain ⟨v, dg, rv⟩ := c'.get e1 hb
        show tClB K C P R _ (σ'.set 4 (some (.ref zs[i].1))) H'
        generalize hσ2 : σ'.set 4 (some (V.ref zs[i].1)) = σ2
        have j4 : σ2[4]? = some (some (.ref zs[i].1)) := by rw [← hσ2]; exact List.getElem?_set_self (by omega)
        have j1 : σ2[1]? = some (some (.ref d)) := by rw [← hσ2]; exact (slot_ne (by decide)).trans g1
        have j3 : σ2[3]? = some (some (.ref f)) := by rw [← hσ2]; exact (slot_ne (by decide)).trans g3
        have jl : σ2.length = 5 := by rw [← hσ2, List.length_set]; exact hl'
        have getv : ∀ Q : VK, Q v H' → tDGet (tVar 1) (tVar 4) σ2 H' Q := fun Q qq => ⟨.ref d, j1, .ref zs[i].1, j4, d, v, rfl, dg, qq⟩
        refine getv _ ⟨_, rfl, ?_⟩
        split at hgo
        · -- dead
          rw [rv.non]
          rw [if_neg (by simp)]
          exact ⟨Hk', m', fs', c', kp, jl, j1, j3, hgo⟩
        · rename_i a0 b0 c0
          obtain ⟨pf, rfl, hpf⟩ := rv.frm
          rw [if_pos (by simp)]
          split at hgo
          · rename_i hlf
            obtain ⟨rd, e2, hgo⟩ := Option.bind_eq_some_iff.mp hgo
            split at hgo
            · rename_i gs
              obtain ⟨m2, e3, hgo⟩ := Option.bind_eq_some_iff.mp hgo
              obtain ⟨ys, hf1, hf2⟩ := c'.fl
              refine ⟨.ref f, j3, .inl ⟨rfl, ys, SqL.of hf1⟩, getv _ ⟨f, ys, _, rfl, rfl, hf1, by rw [hf2.length]; exact sz_lt hlf, ?_⟩⟩
              have c2 := c'.app hf1 hf2 rv
              have kp2 := keep3 _ (.lst (ys ++ [.ref pf])) kp
              -- for form in ring_of(left[own])
              have dg2 : ∃ v2, DGet (upd H' f (.lst (ys ++ [.ref pf]))) d (.ref zs[i].1) (some v2) ∧ Rp C Hk' (.frm a0 b0 c0) v2 := c2.get e1 (kp2.2 zs[i] (List.getElem_mem hlt))
              obtain ⟨v2, dg2, rv2⟩ := dg2
              refine ⟨.ref d, j1, .ref zs[i].1, j4, d, v2, rfl, dg2, rfl, Hk', [.frm a0 b0 c0], .lst gs, c2.kh, rpl_cons rv2 rpl_nil, e2, fun u Hk2 H2 n2 ru => ?_⟩
              obtain ⟨l, us, rfl, l1, l2⟩ := ru.lst
              refine ⟨l, rfl, ⟨us, SqL.of (n2.kh _ _ l1)⟩, ?_⟩
              exact ok_kill (E := { (_ : Ends) with nx := Pv (i + 1) }) hP hPf keep1 keep2 (by omega) j1 (c2.nx n2) l1 l2 e3 (keep1 _ _ _ _ kp2 n2) fun σ3 Hk3 H3 k3 hs3 hlen3 c3 kp3 =>
                ⟨Hk3, m2, _, c3, kp3, hlen3.trans jl, (hs3 1 (by decide)).trans j1, (hs3 3 (by decide)).trans j3, hgo⟩
            · cases hgo
          · cases hgo
        · cases hgo
      · have ei : i = zs.length := by omega
        subst ei
        rw [List.drop_length] at hgo
        cases hgo
        exact .inl ⟨⟨xs, SqL.of kp.1, by omega⟩, q σ' Hk' H' m' g3 c'⟩
  · cases e
end
end L3
set_option maxHeartbeats 4000000
namespace L2
open PySem PySem.Spec PyProof.Rows
section
variable {X : Cx}
theorem ps_setDcT {i : Nat} {y : Str} {py : Pos} {kx vx tg iter : Expr} {ifs : List Expr} {scope : Scope} {own : List (Str × Nat)} {pos spos : Pos} {wi : TI} {g : TG} {tt : TT} {tk tv : TE} (hu : X.A.units + 1 < cLine) (hc : X.calm = true) (hN : X.N.Nodup) (hy : X.N[i]? = some y) (hyl : X.env.scope.names.lookup y = some .local)
    (hsw : swapsWith (.DictComp kx vx [⟨tg, iter, ifs, 0⟩] scope pos) (some (.Name y py)) spos.line X.env = pure true) (hi : PI X tg iter wi) (ok : BlkOk X.N X.env.scope scope own)
    (hg : ∀ (s : Shared) (H : Hp) (C : Addr) (cl : List (Str × Addr)) (fp : List Addr), PG (X.blk s H scope (compEnvC scope cl C X.env) fp) tg g) (ht : ∀ (s : Shared) (H : Hp) (C : Addr) (cl : List (Str × Addr)) (fp : List Addr), PTs (X.blk s H scope (compEnvC scope cl C X.env) fp) ifs tt)
    (hk : ∀ (s : Shared) (H : Hp) (C : Addr) (cl : List (Str × Addr)) (fp : List Addr), PE (X.blk s H scope (compEnvC scope cl C X.env) fp) kx tk)
    (he : ∀ (s : Shared) (H : Hp) (C : Addr) (cl : List (Str × Addr)) (fp : List Addr), PE (X.blk s H scope (compEnvC scope cl C X.env) fp) vx tv) (hs : ∀ x, foldedSetIterable iter X.env x = pure x := by intro _; rfl) :
    PS X (.Assign [.Name y py] (.DictComp kx vx [⟨tg, iter, ifs, 0⟩] scope pos) spos) (tAsg (tDcT wi g tt tk tv (own.map (·.2))) (gName i)) := by
  refine ⟨fun pins s σ H D I h => ?_⟩
  rw [exec_Assign_Name_used _ _ _ _ hsw]
  refine wpAny_bind (wpAny_standAt (wpAny_bind ?_))
  show wpAny _ X.A (do let _ ← comprehension (.DictComp kx vx [⟨tg, iter, ifs, 0⟩] scope pos) scope X.env (firstIterPos [⟨tg, iter, ifs, 0⟩] pos) newDict false (eval iter X.env) (some (assign (.Name y py) X.env))) _ _ s
  have h : tDcT wi g tt tk tv (own.map (·.2)) σ H (fun x H1 => gName i x σ H1 D.nx) := h
  refine wpAny_bind (thn (dcT_core (Qf := fun _ s' => SP X pins D .next s') hu hc hN I hi ok hg ht hk he hs h fun L C s' m H' I' q hn f => ?_) fun _ s' hq => wpAny_pure (wpAny_pure hq))
  show wpAny _ _ (assign (.Name y py) X.env (.ref L)) _ _ _
  refine wpAny_assign_Name (store_ok2 (v := V.ref L) I' hN hy (.inl hyl) rfl (fun s2 I2 ⟨a, sb, ha⟩ => ?_) (.inr hyl))
  obtain ⟨f0, f1, f2, f3, f4, f5⟩ := f
  have haC : C ≠ a := by
    rcases ha with z | z
    · rw [z]; exact f1
    · exact fun e => f4 y a z e.symm
  refine ⟨m, hn.sameBut sb haC, fun h3 sb3 => ?_⟩
  exact ⟨_, H', I2.turned (t' := s2.toks) (fun b o hb e => (sb3.2 b hb).trans e) f0 f1 f3 f4 f5, q⟩
end
end L2
namespace L3
open PySem L2 RZ
/-! ### class_list: its body -/
def s_cl (fi : En → Option (List Dat)) (gt : Dat → En → Option En) (fk fv : En → Option Dat) (P R : List Dat → Option Dat) : En → Option Fl := fun ρ => match ρ with
  | [.fz w, .no, .no, .no, .no] => (fDc fi gt fk fv [2] [.fz w, .no, .no, .no, .no]).bind fun m => (s_clF P R m).bind fun fs => some (.rt (.lst fs))
  | _ => none
section
variable {X : Cx} {C : Addr} {P R : List Dat → Option Dat}
theorem hP_of (a b c : Int) (Hk H : Hp) (σ : L2.St) (v : V) (r : Dat) (hl : Le Hk H) (h2 : σ[2]? = some (some v)) (rv : Rp C Hk (.frm a b c) v) (e : P [.frm a b c] = some r) (Q : VK) (q : ∀ u Hk' H', Nx Hk H Hk' H' → Rp C Hk' r u → Q u H') : tPropD C P (tVar 2) σ H Q := by
  obtain ⟨p, rfl, hf⟩ := rv.frm
  obtain ⟨dx, fs, h⟩ := hf.ins
  exact ⟨.ref p, h2, ⟨p, dx, fs, rfl, hl _ _ h⟩, rfl, Hk, [.frm a b c], r, hl, rpl_cons rv rpl_nil, e, q⟩
theorem ok_cl {K : PySem.W.Frag} {wi : TI} {g : TG} {tk tv : TE} {fi : En → Option (List Dat)} {gt : Dat → En → Option En} {fk fv : En → Option Dat} (hi : OkIw C wi fi) (og : OkG C [2] g gt) (ok : OkE C tk fk) (ov : OkE C tv fv) (hPf : ∀ g : Dat, (∀ a b c, g ≠ .frm a b c) → ¬ (∃ kd, P [g] = some kd)) :
    OkS C (tSeq (tAsg (tDcT wi g tYes tk tv [2]) (gName 1)) (tSeq (tAsg (tLst tNil) (gName 3)) (tSeq (tClF K C P R) (tRet (tVar 3))))) (s_cl fi gt fk fv P R) := fun Hk H σ ρ r rl e E hn hr => by
  unfold s_cl at e
  split at e
  · rename_i w
    obtain ⟨m, e1, e⟩ := Option.bind_eq_some_iff.mp e
    obtain ⟨fs, e2, e⟩ := Option.bind_eq_some_iff.mp e
    cases e
    have hl : σ.length = 5 := rl.len
    have nown : ∀ l, ¬ Own σ [Sl.fz w, .no, .no, .no, .no] l := by
      rintro l ⟨i, ds, hi, _⟩
      match i, hi with
      | 0, hi => cases hi
      | 1, hi => cases hi
      | 2, hi => cases hi
      | 3, hi => cases hi
      | 4, hi => cases hi
      | i + 5, hi => simp at hi
    have od := ok_dc (vs := [2]) (ws := [2]) (fun j h => h) hi og ok ov
    refine od Hk H σ _ m rl e1 (fun x H1 => (tSeq (tAsg (tLst tNil) (gName 3)) (tSeq (tClF K C P R) (tRet (tVar 3)))) E (σ.set 1 (some x)) H1) fun p kvs Hk1 H1 n1 h0 k0 t => ?_
    show (tSeq (tAsg (tLst tNil) (gName 3)) (tSeq (tClF K C P R) (tRet (tVar 3)))) E (σ.set 1 (some (.ref p))) H1
    refine ⟨sz_of (by decide), fun f hf => ?_⟩
    show (tSeq (tClF K C P R) (tRet (tVar 3))) E ((σ.set 1 (some (.ref p))).set 3 (some (.ref f))) (upd H1 f (.lst []))
    have pf : p ≠ f := fun z => by subst z; rw [t.at_] at hf; cases hf
    have n2 : Nx Hk1 H1 Hk1 (upd H1 f (.lst [])) := Nx.own n1.kh hf
    have n12 := n1.trans n2
    have c : CLI C Hk H Hk1 (upd H1 f (.lst [])) p f m [] :=
      ⟨n12.kk, n12.kh, n12.hh, n12.sp, pf, k0, n1.kh.free hf, h0, n1.hh.free hf, ⟨kvs, t.nx n2⟩, ⟨[], upd_same, rpl_nil⟩⟩
    refine ok_clF (E := { E with nx := (tRet (tVar 3)) E }) hPf (fun a b c Hk H σ v r => hP_of a b c Hk H σ v r) (by simp [hl]) ((slot_ne (by decide)).trans (List.getElem?_set_self (by omega))) (List.getElem?_set_self (by simp [hl])) c e2 fun σ' Hk' H' m' g3 c' => ?_
    obtain ⟨xs, f1, f2⟩ := c'.fl
    refine ⟨.ref f, g3, ?_⟩
    have kf : Le Hk' (upd Hk' f (.lst xs)) := Le.new c'.kf
    refine hr (.lst fs) rfl (.ref f) (upd Hk' f (.lst xs)) H' ⟨c'.kk.trans kf, fun l o h => ?_, fun l o h _ => c'.fr l o h, fun l h1 h2 _ => ?_⟩ (rp_lst upd_same (f2.mono kf))
    · by_cases z : l = f
      · subst z; rw [upd_same] at h; rw [f1]; exact h
      · rw [upd_ne z] at h; exact c'.kh _ _ h
    · have z : l ≠ f := fun z => h2 (by rw [z]; exact c'.ff)
      rw [upd_ne z]; exact c'.sp l h1 h2
  · cases e
end
end L3
set_option maxHeartbeats 4000000
namespace L3
open PySem L2 RZ
theorem units1 {k : Nat} {A : Around} (r : Room k A) : A.units + 1 < cLine := by have := r.un; omega
theorem sss_cl {X : Cx} {C : Addr} {P R : List Dat → Option Dat} {y y3 : Str} {py p1 p2 p3 p4 p5 : Pos} {kx vx tg iter : Expr} {scope : Scope} {own : List (Str × Nat)} {pos spos : Pos} {st3 : Stmt} {wi : TI} {g : TG} {tk tv : TE} {fi : En → Option (List Dat)} {gt : Dat → En → Option En} {fk fv : En → Option Dat}
    (hu : X.A.units + 64 < cLine) (hc : X.calm = true) (hN : X.N.Nodup) (ok : BlkOk X.N X.env.scope scope own) (ho : own.map (·.2) = [2]) (hi : SIw X C tg iter wi fi)
    (hg : ∀ (s : Shared) (H : Hp) (C' : Addr) (cl : List (Str × Addr)) (fp : List Addr), SG (X.blk s H scope (compEnvC scope cl C' X.env) fp) C tg [2] g gt)
    (hk : ∀ (s : Shared) (H : Hp) (C' : Addr) (cl : List (Str × Addr)) (fp : List Addr), SE (X.blk s H scope (compEnvC scope cl C' X.env) fp) C kx tk fk)
    (hv : ∀ (s : Shared) (H : Hp) (C' : Addr) (cl : List (Str × Addr)) (fp : List Addr), SE (X.blk s H scope (compEnvC scope cl C' X.env) fp) C vx tv fv)
    (hPf : ∀ g : Dat, (∀ a b c, g ≠ .frm a b c) → ¬ (∃ kd, P [g] = some kd)) (q3 : PS X st3 (tClF X.K C P R))
    (hy : X.N[1]? = some y := by rfl) (hyl : X.env.scope.names.lookup y = some .local := by rfl) (hsw : swapsWith (.DictComp kx vx [⟨tg, iter, [], 0⟩] scope pos) (some (.Name y py)) spos.line X.env = pure true := by rfl)
    (hs : ∀ x, foldedSetIterable iter X.env x = pure x := by intro _; rfl)
    (hy3 : X.N[3]? = some y3 := by rfl) (hyl3 : X.env.scope.names.lookup y3 = some .local := by rfl) (hsw3 : swapsWith (.List [] p2) (some (.Name y3 p1)) p3.line X.env = pure false := by rfl)
    (hv3 : Vis X.env.scope y3 := by first | exact Or.inl rfl | exact Or.inr (Or.inl rfl) | exact Or.inr (Or.inr rfl)) (hd : (y3 == ("__debug__" : Str)) = false := by decide) (hcd : (y3 == ("__classdict__" : Str)) = false := by decide) :
    SSs X C [.Assign [.Name y py] (.DictComp kx vx [⟨tg, iter, [], 0⟩] scope pos) spos, .Assign [.Name y3 p1] (.List [] p2) p3, st3, .Return (some (.Name y3 p4)) p5]
      (tSeq (tAsg (tDcT wi g tYes tk tv (own.map (·.2))) (gName 1)) (tSeq (tAsg (tLst tNil) (gName 3)) (tSeq (tClF X.K C P R) (tRet (tVar 3))))) (s_cl fi gt fk fv P R) := by
  refine ⟨pss_cons (ps_setDcT (by omega) hc hN hy hyl hsw hi.p ok (fun s H C' cl fp => (hg s H C' cl fp).p) (fun _ _ _ _ _ => pts_nil) (fun s H C' cl fp => (hk s H C' cl fp).p) (fun s H C' cl fp => (hv s H C' cl fp).p) hs)
    (pss_cons (ps_set hN hy3 (.inl hyl3) (pe_lst pa_nil) hsw3 (.inr hyl3)) (pss_cons q3 (pss_one (ps_ret (pe_var hy3 hv3 hd hcd))))), ?_⟩
  rw [ho]
  exact ok_cl hi.o (hg X.s_0 X.H_0 0 [] []).o (hk X.s_0 X.H_0 0 [] []).o (hv X.s_0 X.H_0 0 [] []).o hPf
section
variable {P : Program} {w : World} {K : PySem.W.Frag} {mg : Str → Option Value} {base : Heap}
theorem coeffs_frm (g : Dat) (h : ∀ a b c, g ≠ .frm a b c) : ¬ (∃ kd, P_coefficients [g] = some kd) := by
  rintro ⟨kd, e⟩
  cases g with
  | frm a b c => exact h a b c rfl
  | _ => exact absurd (show (none : Option Dat) = some kd from e) (fun z => nomatch z)
def s_class_list : En → Option Fl := s_cl (fSq (fC F_reduced_forms (fCons (fV 0) fNil))) (gN 2) (fProp P_coefficients (fV 2)) (fV 2) P_coefficients F_ring_of
def F_class_list : List Dat → Option Dat := runF s_class_list 4
theorem sc_class_list : FnScope ["whole", "left", "form", "found", "own"] ["whole"] (defScope (top 81)) := ⟨rfl, rfl, rfl, by decide +kernel, rfl, by decide +kernel, by decide +kernel⟩
theorem d_class_list (W : Wf K mg) : DefOk P w K mg base (CF K) 11 "class_list" 1 F_class_list := by
  obtain ⟨fd, F⟩ := W.d 46 rfl
  have nd := sc_class_list.nd
  exact defok F (fn_spf (k := 10) F sc_class_list (by decide) fun cdv A outer sh H hr => ⟨_, sss_cl hr.units rfl nd (own := [("form", 2)]) (blkOk_by (own := [("form", 2)]) (by kernel_rfl)) rfl
    (SI.w (si_seqK (K := K) (se_call (d_reduced_forms W) (hr.mono (by decide)) (sa_cons (se_var 0) sa_nil)))) (fun _ _ _ _ _ => sg_name 2 nd) (fun _ _ _ _ _ => se_prop (p_coefficients W) (hr.mono (by decide)) (se_var 2)) (fun _ _ _ _ _ => se_var 2) coeffs_frm
    (ps_for PassesOwn.never rfl (pi_list (pe_callB (cr_sortedDT rfl hr.units) (by rfl) W.b_sorted (by decide +kernel) (pa_cons (pe_var (i := 1) (by rfl) (by first | exact Or.inl rfl | exact Or.inr (Or.inl rfl) | exact Or.inr (Or.inr rfl))) pa_nil) (by decide) (by decide) (by rfl) (by rfl)))
      (pg_name nd (by rfl) (by first | exact .inl rfl | exact .inr rfl))
      (pss_one (ps_if (pt_cmp (pc_notN (pe_dget (units1 hr) (pe_var (i := 1) (by rfl) (by first | exact Or.inl rfl | exact Or.inr (Or.inl rfl) | exact Or.inr (Or.inr rfl))) (pe_var (i := 4) (by rfl) (by first | exact Or.inl rfl | exact Or.inr (Or.inl rfl) | exact Or.inr (Or.inr rfl))) (fun _ _ => rfl))) rfl)
        (pss_cons (ps_expr (pe_bm PySem.F.plainAttrs_list PySem.F.slot_list_append PySem.F.type_list_append mt_append (pe_var (i := 3) (by rfl) (by first | exact Or.inl rfl | exact Or.inr (Or.inl rfl) | exact Or.inr (Or.inr rfl))) (pa_cons (pe_dget (units1 hr) (pe_var (i := 1) (by rfl) (by first | exact Or.inl rfl | exact Or.inr (Or.inl rfl) | exact Or.inr (Or.inr rfl))) (pe_var (i := 4) (by rfl) (by first | exact Or.inl rfl | exact Or.inr (Or.inl rfl) | exact Or.inr (Or.inr rfl))) (fun _ _ => rfl)) pa_nil (by rfl)) (by rfl) (by rfl) (by rfl) (by rfl) (by rfl)) (by rfl))
          (pss_one (ps_for PassesOwn.never rfl (pi_list (pe_def (d_ring_of W) (hr.mono (by decide)) (pa_cons (pe_dget (units1 hr) (pe_var (i := 1) (by rfl) (by first | exact Or.inl rfl | exact Or.inr (Or.inl rfl) | exact Or.inr (Or.inr rfl))) (pe_var (i := 4) (by rfl) (by first | exact Or.inl rfl | exact Or.inr (Or.inl rfl) | exact Or.inr (Or.inr rfl))) (fun _ _ => rfl)) pa_nil (by rfl)) (by rfl) (by decide) (by rfl) (by rfl)))
            (pg_name nd (by rfl) (by first | exact .inl rfl | exact .inr rfl))
            (pss_one (ps_dput (units1 hr) (pe_var (i := 1) (by rfl) (by first | exact Or.inl rfl | exact Or.inr (Or.inl rfl) | exact Or.inr (Or.inr rfl))) (pe_propD (p_coefficients W) (hr.mono (by decide)) (pe_var (i := 2) (by rfl) (by first | exact Or.inl rfl | exact Or.inr (Or.inl rfl) | exact Or.inr (Or.inr rfl))) (by rfl)) pe_non (by rfl))) (by intro _; rfl))))
        pss_nil)) (by intro _; rfl))⟩) (W.g 46 rfl) (F.bindsN fun _ _ _ _ _ _ us hl => match us, hl with | [_], _ => rfl)
end
end L3
set_option maxHeartbeats 4000000
namespace L3
open PySem L2 RZ
/-! ### classes_giving: a dict filled in a loop, its values in the keys' order -/
structure CLD (C : Addr) (Hk0 H0 Hk H : Hp) (d : Addr) (m : TM) : Prop where
  kk : Le Hk0 Hk
  kh : Le Hk H
  fr : Le H0 H
  sp : ∀ l, Hk0 l = none → H0 l ≠ none → Hk l = none
  kd : Hk d = none
  fd : H0 d = none
  dt : ∃ kvs, DT C Hk H d m kvs
section
variable {C : Addr} {Hk0 H0 Hk H Hk' H' : Hp} {d b : Addr} {m : TM} {x : Dat} {v : V} {k : List Int}
theorem CLD.nx (c : CLD C Hk0 H0 Hk H d m) (n : Nx Hk H Hk' H') : CLD C Hk0 H0 Hk' H' d m where
  kk := c.kk.trans n.kk
  kh := n.kh
  fr := c.fr.trans n.hh
  sp := fun l e z => n.sp l (c.sp l e z) fun w => z (c.fr.free w)
  kd := by obtain ⟨_, t⟩ := c.dt; exact n.sp d c.kd (by rw [t.at_]; intro z; cases z)
  fd := c.fd
  dt := let ⟨kvs, t⟩ := c.dt; ⟨kvs, t.nx n⟩
theorem CLD.put (c : CLD C Hk0 H0 Hk H d m) (r : Rp C Hk x v) (hb : H b = some (.tup (k.map V.int))) (hl : m.length < 100000) : ∃ H', DPut H d (.ref b) v H' ∧ CLD C Hk0 H0 Hk H' d (putT m k x) := by
  obtain ⟨kvs, t⟩ := c.dt
  have hb' : H b = some (.tup ((inK k).map kV)) := by unfold inK; rw [map_kV]; exact hb
  exact ⟨_, DPut.t t.at_ hb' (by rw [t.len]; exact sz_lt hl), c.kk, le_out c.kh c.kd, le_out c.fr c.fd, c.sp, c.kd, c.fd, ⟨_, t.put r⟩⟩
end
def cgGo (L P : List Dat → Option Dat) : List Dat → TM → Option TM
  | [], m => some m
  | g :: gs, m => (L [g]).bind fun x => match x with
    | .frm a b c => (P [.frm a b c]).bind fun k => (tupOfI k).bind fun t => if m.length < 100000 then cgGo L P gs (putT m t (.frm a b c)) else none
    | _ => none
def valsT (m : TM) : List (List Int) → Option (List Dat)
  | [] => some []
  | k :: ks => (getT m k).bind fun x => (valsT m ks).bind fun xs => some (x :: xs)
def s_cg (L P : List Dat → Option Dat) (gs : List Dat) : Option (List Dat) := (cgGo L P gs []).bind fun m => if neB (m.map (·.1)) && decide (m.length ≤ 100000) then valsT m (sortT (m.map (·.1))) else none
abbrev tCgB (C : Addr) (L P : List Dat → Option Dat) : TS := tSeq (tAsg (tDef C 1 L (tCons (tVar 3) tNil)) (gName 4)) (sDPut (tVar 2) (tPropD C P (tVar 4)) (tVar 4))
abbrev tCgV (K : PySem.W.Frag) : TE := tLc (iList K (tCB (rSortedDT K) (tCons (tVar 2) tNil))) (gName 5) tYes (tDGet (tVar 2) (tVar 5)) [5]
section
variable {C : Addr} {K : PySem.W.Frag} {P L : List Dat → Option Dat} {Hk0 H0 Hk H : Hp} {d : Addr} {σ : L2.St} {E : Ends}
theorem ok_cgF {gs : List Dat} {out : TM} {m : TM} {a : Addr} {xs : List V} (hl : σ.length = 6) (h2 : σ[2]? = some (some (.ref d))) (c : CLD C Hk0 H0 Hk H d m) (ha : Hk a = some (.lst xs)) (hx : RpL C Hk gs xs) (e : cgGo L P gs m = some out)
    (q : ∀ σ' Hk' H', σ'.length = 6 → σ'[2]? = some (some (.ref d)) → CLD C Hk0 H0 Hk' H' d out → E.nx σ' H') :
    ∃ W : Nat → Nat → L2.St → Hp → Prop, (∃ m, W 0 m σ H) ∧ ∀ i m σ' H', W i m σ' H' →
      ((Itl K a).stop i H' ∧ E.nx σ' H') ∨ ((Itl K a).go i H' ∧ ∃ N : L2.St → Hp → Prop, (∀ σ2 H2, N σ2 H2 → ∃ m', m' < m ∧ W (i + 1) m' σ2 H2) ∧ ∀ x H2, (Itl K a).yld i H' x H2 → gName 3 x σ' H2 fun σ3 H3 => tCgB C L P { E with nx := N, ct := N, bk := E.nx } σ3 H3) := by
  have lx : xs.length = gs.length := hx.length
  let Pv : Nat → L2.St → Hp → Prop := fun i σ' H' => ∃ Hk' m', Le Hk Hk' ∧ CLD C Hk0 H0 Hk' H' d m' ∧ cgGo L P (gs.drop i) m' = some out ∧ σ'.length = 6 ∧ σ'[2]? = some (some (.ref d))
  refine ⟨fun i m σ' H' => m = gs.length - i ∧ i ≤ gs.length ∧ Pv i σ' H', ⟨gs.length, by simp, Nat.zero_le _, Hk, m, Le.refl _, c, e, hl, h2⟩, ?_⟩
  rintro i _ σ' H' ⟨rfl, hi, Hk', m', k1, c', hgo, hlen, g2⟩
  have hat : H' a = some (.lst xs) := c'.kh _ _ (k1 _ _ ha)
  by_cases hlt : i < gs.length
  · refine .inr ⟨⟨xs, xs[i], SqL.of hat, by simp [lx, hlt]⟩, Pv (i + 1), fun σ2 H2 p => ⟨gs.length - (i + 1), by omega, rfl, hlt, p⟩, ?_⟩
    rintro x H2 ⟨eH, hx2⟩
    have eH' := eH.symm
    subst eH'
    have hxi := hx2 xs (SqL.of hat)
    obtain ⟨g, hg1, rg⟩ := hx.get' hxi
    have edrop : gs.drop i = g :: gs.drop (i + 1) := by
      rw [List.drop_eq_getElem_cons hlt]
      have : gs[i]? = some gs[i] := List.getElem?_eq_getElem hlt
      rw [this] at hg1; cases hg1; rfl
    rw [edrop] at hgo
    obtain ⟨xd, e1, hgo⟩ := Option.bind_eq_some_iff.mp (show (L [g]).bind _ = some out from hgo)
    split at hgo
    · rename_i a0 b0 c0
      obtain ⟨kd, e2, hgo⟩ := Option.bind_eq_some_iff.mp hgo
      obtain ⟨kt, e3, hgo⟩ := Option.bind_eq_some_iff.mp hgo
      split at hgo
      · rename_i hlm
        show tCgB C L P _ (σ'.set 3 (some x)) H'
        have j3 : (σ'.set 3 (some x))[3]? = some (some x) := List.getElem?_set_self (by omega)
        refine ⟨x, j3, rfl, Hk', [g], _, c'.kh, rpl_cons (rg.mono k1) rpl_nil, e1, fun u Hk2 H2 n2 ru => ?_⟩
        show sDPut (tVar 2) (tPropD C P (tVar 4)) (tVar 4) _ ((σ'.set 3 (some x)).set 4 (some u)) H2
        have j4 : ((σ'.set 3 (some x)).set 4 (some u))[4]? = some (some u) := List.getElem?_set_self (by simp; omega)
        have j2 : ((σ'.set 3 (some x)).set 4 (some u))[2]? = some (some (.ref d)) := (List.getElem?_set_ne (by decide)).trans ((List.getElem?_set_ne (by decide)).trans g2)
        have c2 := c'.nx n2
        refine ⟨u, j4, .ref d, j2, ?_⟩
        obtain ⟨p0, rfl, hf0⟩ := ru.frm
        obtain ⟨dx0, fs0, hi0⟩ := hf0.ins
        refine ⟨.ref p0, j4, ⟨p0, dx0, fs0, rfl, c2.kh _ _ hi0⟩, rfl, Hk2, [.frm a0 b0 c0], kd, c2.kh, rpl_cons ru rpl_nil, e2, fun y Hk3 H3 n3 ry => ?_⟩
        rw [tupOfI_map e3] at ry
        obtain ⟨b, ys, rfl, b1, b2⟩ := (show Rp C Hk3 (.tup (kt.map Dat.int)) y from ry).tup
        rw [b2.ints] at b1
        obtain ⟨H4, p1, p2⟩ := (c2.nx n3).put (x := .frm a0 b0 c0) (v := .ref p0) (k := kt) (ru.mono n3.kk) (n3.kh _ _ b1) hlm
        exact ⟨d, H4, rfl, p1, Hk3, _, (k1.trans n2.kk).trans n3.kk, p2, hgo, by simp [hlen], j2⟩
      · cases hgo
    · cases hgo
  · have ei : i = gs.length := by omega
    subst ei
    rw [List.drop_length] at hgo
    cases hgo
    exact .inl ⟨⟨xs, SqL.of hat, by omega⟩, q σ' Hk' H' hlen g2 c'⟩
theorem valsT_get {m : TM} : ∀ {ks : List (List Int)} {xs : List Dat} {i : Nat} {k : List Int}, valsT m ks = some xs → ks[i]? = some k → ∃ x, xs[i]? = some x ∧ getT m k = some x
  | [], _, _, _, _, h => by simp at h
  | k0 :: ks, xs, i, k, e, h => by
    unfold valsT at e
    obtain ⟨x, e1, e⟩ := Option.bind_eq_some_iff.mp e
    obtain ⟨ys, e2, e⟩ := Option.bind_eq_some_iff.mp e
    cases e
    cases i with
    | zero => simp at h; subst h; exact ⟨x, rfl, e1⟩
    | succ i =>
      obtain ⟨y, h1, h2⟩ := valsT_get e2 (show ks[i]? = some k by simpa using h)
      exact ⟨y, by simpa using h1, h2⟩
theorem valsT_len {m : TM} : ∀ {ks : List (List Int)} {xs : List Dat}, valsT m ks = some xs → xs.length = ks.length
  | [], _, e => by cases e; rfl
  | k0 :: ks, xs, e => by
    unfold valsT at e
    obtain ⟨x, e1, e⟩ := Option.bind_eq_some_iff.mp e
    obtain ⟨ys, e2, e⟩ := Option.bind_eq_some_iff.mp e
    cases e
    rw [List.length_cons, List.length_cons, valsT_len e2]
/-- [found[own] for own in sorted(found)] -/
theorem ok_cgV {m : TM} {out : List Dat} (hl : σ.length = 6) (h2 : σ[2]? = some (some (.ref d))) (c : CLD C Hk0 H0 Hk H d m) (hne : neB (m.map (·.1)) = true) (hz : m.length ≤ 100000) (e : valsT m (sortT (m.map (·.1))) = some out)
    (Q : VK) (q : ∀ p xs Hk' H', Nx Hk H Hk' H' → CLD C Hk0 H0 Hk' H' d m → H' p = some (.lst xs) → RpL C Hk' out xs → Q (.ref p) H') : tCgV K σ H Q := by
  obtain ⟨kvs, t⟩ := c.dt
  refine ⟨.ref d, h2, d, kvs, m.map (·.1), rfl, t.at_, by rw [t.ks, List.map_map]; rfl, fun tt ht z => ?_, fun zs p hzs pm asc hp => ?_⟩
  · have := List.all_eq_true.mp hne tt ht
    rw [z] at this
    cases this
  · have ekeys : zs.map (·.2) = sortT (m.map (·.1)) := sortT_of pm asc
    rw [← ekeys] at e
    let xs : List V := zs.map fun z => V.ref z.1
    have lxs : xs.length = zs.length := List.length_map ..
    have np : Nx Hk H Hk (upd H p (.lst xs)) := Nx.own c.kh hp
    refine ⟨p, rfl, ⟨xs, SqL.of upd_same⟩, fun D hD => ?_⟩
    have nD : Nx Hk (upd H p (.lst xs)) Hk (upd (upd H p (.lst xs)) D (.lst [])) := Nx.own np.kh hD
    have lz : zs.length ≤ 100000 := by
      have e1 := congrArg List.length ekeys
      rw [List.length_map, (sortT_perm _).length_eq, List.length_map] at e1
      omega
    have pD : p ≠ D := fun z => by rw [← z, upd_same] at hD; cases hD
    have lo : out.length = zs.length := by rw [valsT_len e, List.length_map]
    let Iv : Nat → Hp → Prop := fun i H' => ∃ acc, H' = upd (upd H p (.lst xs)) D (.lst acc) ∧ RpL C Hk (out.take i) acc
    refine ⟨fun i m' H' => m' = zs.length - i ∧ i ≤ zs.length ∧ Iv i H', ⟨zs.length, by simp, Nat.zero_le _, [], rfl, by rw [List.take_zero]; exact rpl_nil⟩, ?_⟩
    rintro i _ H' ⟨rfl, hi, acc, rfl, ra⟩
    have hpat : upd (upd H p (.lst xs)) D (.lst acc) p = some (.lst xs) := by rw [upd_ne pD]; exact upd_same
    have nacc : Nx Hk H Hk (upd (upd H p (.lst xs)) D (.lst acc)) := np.trans (Nx.own np.kh hD)
    by_cases hlt : i < zs.length
    · refine .inr ⟨⟨xs, xs[i], SqL.of hpat, by simp [lxs, hlt]⟩, Iv (i + 1), fun H2 p => ⟨zs.length - (i + 1), by omega, rfl, hlt, p⟩, ?_⟩
      rintro x H2 ⟨eH, hx2⟩
      subst eH
      have hxi := hx2 xs (SqL.of hpat)
      have hzi : zs[i]? = some zs[i] := List.getElem?_eq_getElem hlt
      have ex : x = V.ref zs[i].1 := by
        rw [List.getElem?_map, hzi] at hxi
        cases hxi; rfl
      subst ex
      refine ⟨wipe_agree (by rw [List.length_set, wipe_length]) fun j hj => by rw [List.getElem?_set_ne (fun z => hj (by simp [z]))], ?_⟩
      dsimp only [tYes]
      rw [if_pos rfl]
      obtain ⟨xd, x1, x2⟩ := valsT_get e (show (zs.map (·.2))[i]? = some zs[i].2 by rw [List.getElem?_map, hzi]; rfl)
      have t' := t.nx nacc
      obtain ⟨v, dg, rv⟩ := t'.get x2 (nacc.hh _ _ (hzs zs[i] (List.getElem_mem hlt)))
      have g2 : ((wipe σ [5]).set 5 (some (V.ref zs[i].1)))[2]? = some (some (.ref d)) := by
        rw [List.getElem?_set_ne (by decide), wipe_out (by decide)]; exact h2
      have g5 : ((wipe σ [5]).set 5 (some (V.ref zs[i].1)))[5]? = some (some (.ref zs[i].1)) := List.getElem?_set_self (by rw [wipe_length]; omega)
      refine ⟨.ref d, g2, .ref zs[i].1, g5, d, v, rfl, dg, acc, upd_same, ?_, acc ++ [v], ?_, ?_⟩
      · have := ra.length
        rw [List.length_take] at this
        exact sz_lt (by omega)
      · funext l
        unfold upd
        by_cases z : l = D
        · rw [if_pos z, if_pos z]
        · rw [if_neg z, if_neg z, if_neg z]
      · have lt' : i < out.length := by omega
        rw [List.take_succ, x1]
        exact ra.append (rpl_cons rv rpl_nil)
    · have ei : i = zs.length := by omega
      subst ei
      rw [← lo, List.take_length] at ra
      exact .inl ⟨⟨xs, SqL.of hpat, by omega⟩, q D acc Hk _ nacc (c.nx nacc) upd_same ra⟩
end
end L3
set_option maxHeartbeats 4000000
namespace L3
open PySem L2 RZ
def rTupOf (K : PySem.W.Frag) : List V → Hp → VK → Prop := fun xs H Q => ∃ p ys, xs = [.ref p] ∧ ((SqL K H p ys ∧ ∀ l, H l = none → Q (.ref l) (upd H l (.tup ys))) ∨ (SqT K H p ys ∧ Q (.ref p) H))
def s_cgT (FW L P : List Dat → Option Dat) : En → Option Fl := fun ρ => match ρ with
  | [.fz a, .fz b, .no, .no, .no, .no] => (FW [a, b]).bind fun r => match r with
    | .lst gs => (s_cg L P gs).bind fun out => some (.rt (.tup out))
    | _ => none
  | _ => none
section
variable {C : Addr} {K : PySem.W.Frag} {FW L P : List Dat → Option Dat}
theorem ok_cgT : OkS C (tSeq (tAsg tDNewT (gName 2)) (tSeq (tFor (iList K (tDef C 2 FW (tCons (tVar 0) (tCons (tVar 1) tNil)))) (gName 3) (tCgB C L P)) (tRet (tCB (rTupOf K) (tCons (tCgV K) tNil))))) (s_cgT FW L P) := fun Hk H σ ρ r rl e E hn hr => by
  unfold s_cgT at e
  split at e
  · rename_i a b
    obtain ⟨rr, e1, e⟩ := Option.bind_eq_some_iff.mp e
    split at e
    · rename_i gs
      obtain ⟨out, e2, e⟩ := Option.bind_eq_some_iff.mp e
      cases e
      unfold s_cg at e2
      obtain ⟨m, e3, e2⟩ := Option.bind_eq_some_iff.mp e2
      split at e2
      · rename_i hz
        rw [Bool.and_eq_true] at hz
        have hl : σ.length = 6 := rl.len
        obtain ⟨v0, s0, r0⟩ := rl.fz 0 _ rfl
        obtain ⟨v1, s1, r1⟩ := rl.fz 1 _ rfl
        intro d hd
        show (tSeq (tFor (iList K (tDef C 2 FW (tCons (tVar 0) (tCons (tVar 1) tNil)))) (gName 3) (tCgB C L P)) (tRet (tCB (rTupOf K) (tCons (tCgV K) tNil)))) E (σ.set 2 (some (.ref d))) (upd H d (.dT []))
        have g0 : (σ.set 2 (some (V.ref d)))[0]? = some (some v0) := (List.getElem?_set_ne (by decide)).trans s0
        have g1 : (σ.set 2 (some (V.ref d)))[1]? = some (some v1) := (List.getElem?_set_ne (by decide)).trans s1
        have g2 : (σ.set 2 (some (V.ref d)))[2]? = some (some (.ref d)) := List.getElem?_set_self (by omega)
        have n0 : Nx Hk H Hk (upd H d (.dT [])) := Nx.own rl.kh hd
        have c0 : CLD C Hk H Hk (upd H d (.dT [])) d [] := ⟨Le.refl _, n0.kh, n0.hh, fun l h _ => h, rl.kh.free hd, hd, ⟨[], upd_same, rfl, rpl_nil⟩⟩
        refine ⟨v0, g0, v1, g1, rfl, Hk, [a, b], .lst gs, n0.kh, rpl_cons r0 (rpl_cons r1 rpl_nil), e1, fun u Hk1 H1 n1 ru => ?_⟩
        obtain ⟨l, us, rfl, l1, l2⟩ := ru.lst
        refine ⟨l, rfl, ⟨us, SqL.of (n1.kh _ _ l1)⟩, ?_⟩
        refine ok_cgF (E := { E with nx := (tRet (tCB (rTupOf K) (tCons (tCgV K) tNil))) E }) (by simp [hl]) g2 (c0.nx n1) l1 l2 e3 fun σ' Hk2 H2 hl2 j2 c2 => ?_
        refine ok_cgV hl2 j2 c2 hz.1 (by simpa using hz.2) e2 (fun x H1 => rTupOf K [x] H1 E.rt) fun p xs Hk3 H3 n3 c3 hp3 rx => ?_
        refine ⟨p, xs, rfl, .inl ⟨SqL.of hp3, fun q hq => ?_⟩⟩
        have n4 : Nx Hk3 H3 (upd Hk3 q (.tup xs)) (upd H3 q (.tup xs)) := Nx.new n3.kh hq
        have c4 := c3.nx n4
        exact hr (.tup out) rfl (.ref q) _ _ ⟨c4.kk, c4.kh, fun l o h _ => c4.fr l o h, fun l h1 h2 _ => c4.sp l h1 h2⟩ (rp_tup upd_same (rx.mono n4.kk))
      · cases e2
    · cases e
  · cases e
end
theorem sss_cg {X : Cx} {C : Addr} {FW L P : List Dat → Option Dat} {st1 st2 st3 st4 st5 : Stmt} {t1 t2 : TS} {s1 s2 : En → Option Fl} (h1 : SS X C st1 t1 s1) (h2 : SS X C st2 t2 s2) (p3 : PS X st3 (tAsg tDNewT (gName 2)))
    (p4 : PS X st4 (tFor (iList X.K (tDef C 2 FW (tCons (tVar 0) (tCons (tVar 1) tNil)))) (gName 3) (tCgB C L P))) (p5 : PS X st5 (tRet (tCB (rTupOf X.K) (tCons (tCgV X.K) tNil)))) :
    SSs X C [st1, st2, st3, st4, st5] (tSeq t1 (tSeq t2 (tSeq (tAsg tDNewT (gName 2)) (tSeq (tFor (iList X.K (tDef C 2 FW (tCons (tVar 0) (tCons (tVar 1) tNil)))) (gName 3) (tCgB C L P)) (tRet (tCB (rTupOf X.K) (tCons (tCgV X.K) tNil))))))) (sSeq s1 (sSeq s2 (s_cgT FW L P))) :=
  ⟨pss_cons h1.p (pss_cons h2.p (pss_cons p3 (pss_cons p4 (pss_one p5)))), ok_seq h1.o (ok_seq h2.o ok_cgT)⟩
section
variable {P : Program} {w : World} {K : PySem.W.Frag} {mg : Str → Option Value} {base : Heap}
def s_classes_giving : En → Option Fl := sSeq (sExpr (fC F_check_discriminant (fCons (fV 0) (fNil)))) (sSeq (sIf (fOr (fNot (fB (fC F_is_between (fCons (fV 1) (fCons (f1 dNeg (fK (.int (1000)))) (fCons (fK (.int (1000))) (fNil))))))) (fB (f2 dEq (fV 1) (fK (.int 0))))) (sNever) (sNext)) (s_cgT F_forms_with F_lead_of P_coefficients))
def F_classes_giving : List Dat → Option Dat := runF s_classes_giving 4
theorem sc_classes_giving : FnScope ["discriminant", "number", "found", "form", "lead", "own"] ["discriminant", "number"] (defScope (top 84)) := ⟨rfl, rfl, rfl, by decide +kernel, rfl, by decide +kernel, by decide +kernel⟩
theorem d_classes_giving (W : Wf K mg) : DefOk P w K mg base (CF K) 12 "classes_giving" 2 F_classes_giving := by
  obtain ⟨fd, F⟩ := W.d 49 rfl
  have nd := sc_classes_giving.nd
  exact defok F (fn_spf (k := 11) F sc_classes_giving (by decide) fun cdv A outer sh H hr => ⟨_, sss_cg
    (ss_expr (se_call (d_check_discriminant W) (hr.mono (by decide)) (sa_cons (se_var 0) sa_nil)))
    (ss_if (SWt.st (sw_or (st_not (st_val (se_call (d_is_between W) (hr.mono (by decide)) (sa_cons (se_var 1) (sa_cons (se_neg (se_gint (W.int_MOST_NUMBER))) (sa_cons (se_gint (W.int_MOST_NUMBER)) sa_nil)))))) (sw_or1 (st_eq (se_var 1) se_int)))) sss_never ss_nil)
    (ps_set nd (by rfl) (by first | exact .inl rfl | exact .inr rfl) pe_dnewT (by rfl) (by first | exact .inl rfl | exact .inr rfl))
    (ps_for PassesOwn.never rfl (pi_list (pe_def (d_forms_with W) (hr.mono (by decide)) (pa_cons (pe_var (i := 0) (by rfl) (by first | exact Or.inl rfl | exact Or.inr (Or.inl rfl) | exact Or.inr (Or.inr rfl))) (pa_cons (pe_var (i := 1) (by rfl) (by first | exact Or.inl rfl | exact Or.inr (Or.inl rfl) | exact Or.inr (Or.inr rfl))) pa_nil)) (by rfl) (by decide) (by rfl) (by rfl)))
      (pg_name nd (by rfl) (by first | exact .inl rfl | exact .inr rfl))
      (pss_cons (ps_set nd (by rfl) (by first | exact .inl rfl | exact .inr rfl) (pe_def (d_lead_of W) (hr.mono (by decide)) (pa_cons (pe_var (i := 3) (by rfl) (by first | exact Or.inl rfl | exact Or.inr (Or.inl rfl) | exact Or.inr (Or.inr rfl))) pa_nil) (by rfl) (by decide) (by rfl) (by rfl)) (by rfl) (by first | exact .inl rfl | exact .inr rfl))
        (pss_one (ps_dput (units1 hr) (pe_var (i := 2) (by rfl) (by first | exact Or.inl rfl | exact Or.inr (Or.inl rfl) | exact Or.inr (Or.inr rfl))) (pe_propD (p_coefficients W) (hr.mono (by decide)) (pe_var (i := 4) (by rfl) (by first | exact Or.inl rfl | exact Or.inr (Or.inl rfl) | exact Or.inr (Or.inr rfl))) (by rfl)) (pe_var (i := 4) (by rfl) (by first | exact Or.inl rfl | exact Or.inr (Or.inl rfl) | exact Or.inr (Or.inr rfl))) (by rfl)))) (by intro _; rfl))
    (ps_ret (pe_callTy call_tuple_of (by rfl) W.b_tuple (by decide +kernel) (pa_cons (pe_lc rfl nd (own := [("own", 5)]) (pi_list (pe_callB (cr_sortedDT rfl hr.units) (by rfl) W.b_sorted (by decide +kernel) (pa_cons (pe_var (i := 2) (by rfl) (by first | exact Or.inl rfl | exact Or.inr (Or.inl rfl) | exact Or.inr (Or.inr rfl))) pa_nil) (by decide) (by decide) (by rfl) (by rfl))) (blkOk_by (own := [("own", 5)]) (by kernel_rfl))
      (fun _ _ _ _ _ => pg_name nd (by rfl) (by first | exact .inl rfl | exact .inr rfl)) (fun _ _ _ _ _ => pts_nil)
      (fun _ _ _ _ _ => pe_dget (units1 hr) (pe_var (i := 2) (by rfl) (by first | exact Or.inl rfl | exact Or.inr (Or.inl rfl) | exact Or.inr (Or.inr rfl))) (pe_var (i := 5) (by rfl) (by first | exact Or.inl rfl | exact Or.inr (Or.inl rfl) | exact Or.inr (Or.inr rfl))) (fun _ _ => rfl)) (by intro _; rfl)) pa_nil (by rfl)) (by decide) (by decide) (by rfl) (by rfl)))⟩) (W.g 49 rfl) (F.bindsN fun _ _ _ _ _ _ us hl => match us, hl with | [_, _], _ => rfl)
end
end L3
set_option maxHeartbeats 4000000
namespace L3
open PySem L2 RZ
/-! ### defs that change a list that they are handed: the list stands in slot 0, owned -/
section
variable {C : Addr} {Hk H Hk1 H1 Hk2 H2 Hk' H' : Hp} {σ σ1 σ2 : L2.St} {ρ ρ1 ρ2 : En}
/-- an owned list has changed within a call -/
theorem Rel.chg {i : Nat} {ds es : List Dat} {l : Addr} {ys : List V} (r : Rel C Hk H σ ρ) (hi : ρ[i]? = some (.ow ds)) (hl : σ[i]? = some (some (.ref l)))
    (kk : Le Hk Hk') (kh : Le Hk' H') (fr : ∀ a o, H a = some o → a ≠ l → H' a = some o) (sp : ∀ a, Hk a = none → H a ≠ none → a ≠ l → Hk' a = none) (k0 : Hk' l = none) (hy : H' l = some (.lst ys)) (ry : RpL C Hk' es ys) :
    Rel C Hk' H' σ (ρ.set i (.ow es)) ∧ Ns Hk H σ ρ Hk' H' σ (ρ.set i (.ow es)) := by
  have hil : i < ρ.length := (List.getElem?_eq_some_iff.mp hi).1
  have own : ∀ m, Own σ (ρ.set i (.ow es)) m → Own σ ρ m := fun m ⟨j, a, h1, h2⟩ => by
    by_cases z : i = j
    · subst z
      exact ⟨i, ds, hi, h2⟩
    · rw [List.getElem?_set_ne z] at h1
      exact ⟨j, a, h1, h2⟩
  have isow : ∀ {j : Nat} {a : List Dat}, (ρ.set i (.ow es))[j]? = some (.ow a) → ∃ a', ρ[j]? = some (.ow a') := fun {j a} hj => by
    by_cases z : i = j
    · subst z; exact ⟨ds, hi⟩
    · rw [List.getElem?_set_ne z] at hj; exact ⟨a, hj⟩
  refine ⟨⟨kh, by simp [r.len], fun j d hj => ?_, fun j fs hj => ?_, fun j k m a b hj hk' h1 h2 => ?_⟩, ⟨kk, kh, fun m o e n => fr m o e fun z => n (by subst z; exact ⟨i, ds, hi, hl⟩), fun m e q n => sp m e q fun z => n (by subst z; exact ⟨i, ds, hi, hl⟩), fun m e => .inl (own m e)⟩⟩
  · by_cases z : i = j
    · subst z
      rw [List.getElem?_set_self hil] at hj; cases hj
    · rw [List.getElem?_set_ne z] at hj
      obtain ⟨v, h1, h2⟩ := r.fz j d hj
      exact ⟨v, h1, h2.mono kk⟩
  · by_cases z : i = j
    · subst z
      rw [List.getElem?_set_self hil] at hj; cases hj
      exact ⟨l, ys, hl, k0, hy, ry⟩
    · rw [List.getElem?_set_ne z] at hj
      obtain ⟨m, xs, h1, h2, h3, h4⟩ := r.ow j fs hj
      have ne : m ≠ l := fun e => by subst e; exact z (r.ds i j m ds fs hi hj hl h1)
      exact ⟨m, xs, h1, sp m h2 (by rw [h3]; intro z; cases z) ne, fr m _ h3 ne, h4.mono kk⟩
  · obtain ⟨a', e1⟩ := isow hj
    obtain ⟨b', e2⟩ := isow hk'
    exact r.ds j k m a' b' e1 e2 h1 h2
end
/-- the promise of a def whose first argument is a list that it may change -/
def SpW (C : Addr) (n : Nat) (F : List Dat → List Dat → Option (Dat × List Dat)) : Sp := fun vs H Q _ =>
  ∃ (l : Addr) (rest : List V) (Hk : Hp) (xs : List V) (ws ds : List Dat) (d : Dat) (ws' : List Dat),
    vs = .ref l :: rest ∧ rest.length = n ∧ Le Hk H ∧ Hk l = none ∧ H l = some (.lst xs) ∧ RpL C Hk ws xs ∧ RpL C Hk ds rest ∧ F ws ds = some (d, ws') ∧
    ∀ v Hk' H' xs', Le Hk Hk' → Le Hk' H' → (∀ a o, H a = some o → a ≠ l → H' a = some o) → (∀ a, Hk a = none → H a ≠ none → a ≠ l → Hk' a = none) → Hk' l = none → H' l = some (.lst xs') → RpL C Hk' ws' xs' → Rp C Hk' d v → Q v H'
structure DefW (P : Program) (w : World) (K : PySem.W.Frag) (mg : Str → Option Value) (base : Heap) (C : Addr) (k : Nat) (x : Str) (n : Nat) (F : List Dat → List Dat → Option (Dat × List Dat)) : Prop where
  ex : ∃ (f : Addr) (fd : FuncData) (ps : List Str), FnOk P w K mg base CX0 k f fd ps (SpW C n F) ∧ mg x = some (.ref f) ∧ PySem.W.keepIn K (.ref f) = true ∧ Binds K fd ps []
def tDefW (C : Addr) (n : Nat) (F : List Dat → List Dat → Option (Dat × List Dat)) (t : TA) : TE := fun σ H Q => t σ H fun vs H1 => SpW C n F vs H1 Q E0
theorem pe_defW {C : Addr} {X : Cx} {e : Expr} {es : List Expr} {pos p : Pos} {ga : TA} {k n : Nat} {x : Str} {F : List Dat → List Dat → Option (Dat × List Dat)} (D : DefW X.prog X.w X.K X.mg X.base C k x n F) (hr : Room k X.A) (ha : PA X (e :: es) ga) (hg : Gl X x) (hdb : (x == ("__debug__" : Str)) = false := by decide)
    (he : starEach (e :: es) X.env = (false, eval e X.env) :: starEach es X.env := by rfl) (hpl : (backTo pos (starEach es X.env)).any (·.1) = false := by rfl) : PE X (.Call (.Name x p) (e :: es) [] pos) (tDefW C n F ga) := by
  obtain ⟨f, fd, ps, Fk, hm, hk, hb⟩ := D.ex
  refine ⟨fun pins s σ H Q I h => ?_⟩
  refine wpAny_Call_Name_kw (ld_glob I hg hm ?_ hdb)
  refine PySem.W.callWith_K (h₀ := X.base) I.ok.mod.kin hk (thn (ha.run pos pins s σ H _ I h) fun us s1 ⟨vs, H1, I1, r, q⟩ => ⟨I1.kIn, ?_⟩) he hpl
  exact run_fn (E := E0) (dvs := []) Fk hr hb .nil pass0 I1 r (by rw [List.append_nil]; exact q)

/-! ### expressions that change owned lists -/
abbrev XF := En → Option (Dat × En)
def OkX (C : Addr) (t : TE) (f : XF) : Prop := ∀ (Hk H : Hp) (σ : L2.St) (ρ : En) (d : Dat) (ρ' : En), Rel C Hk H σ ρ → f ρ = some (d, ρ') → ∀ Q : VK,
  (∀ v Hk' H', Ns Hk H σ ρ Hk' H' σ ρ' → Rel C Hk' H' σ ρ' → Rp C Hk' d v → Q v H') → t σ H Q
structure SX (X : Cx) (C : Addr) (e : Expr) (t : TE) (f : XF) : Prop where
  p : PE X e t
  o : OkX C t f
def xPure (f : En → Option Dat) : XF := fun ρ => (f ρ).bind fun d => some (d, ρ)
def xOp (g : Dat → Dat → Option Dat) (a b : XF) : XF := fun ρ => (a ρ).bind fun p => (b p.2).bind fun q => (g p.1 q.1).bind fun d => some (d, q.2)
def xCall0 (i : Nat) (F : List Dat → List Dat → Option (Dat × List Dat)) : XF := fun ρ => (fO i ρ).bind fun ws => (F ws []).bind fun p => some (p.1, ρ.set i (.ow p.2))
def xCall1 (i : Nat) (F : List Dat → List Dat → Option (Dat × List Dat)) (a : XF) : XF := fun ρ => (fO i ρ).bind fun _ => (a ρ).bind fun q => (fO i q.2).bind fun ws => (F ws [q.1]).bind fun p => some (p.1, q.2.set i (.ow p.2))
section
variable {C : Addr} {X : Cx} {e a b : Expr} {pos p p1 : Pos} {ua ub ue : TE} {f : En → Option Dat} {xa xb : XF} {k i : Nat} {x : Str} {F : List Dat → List Dat → Option (Dat × List Dat)}
theorem sx_pure (h : SE X C e ue f) : SX X C e ue (xPure f) := ⟨h.p, fun Hk H σ ρ d ρ' r e Q q => by
  obtain ⟨d', e1, e⟩ := Option.bind_eq_some_iff.mp (show (f ρ).bind _ = some (d, ρ') from e)
  cases e
  exact h.o Hk H σ ρ d r e1 Q fun v Hk1 H1 n1 r1 => q v Hk1 H1 n1.ns (r.nx n1) r1⟩
theorem okx_op {r : R2} {g : Dat → Dat → Option Dat} (hr : OkR C r g) (ha : OkX C ua xa) (hb : OkX C ub xb) : OkX C (tOp r ua ub) (xOp g xa xb) := fun Hk H σ ρ d ρ' rl e Q q => by
  obtain ⟨⟨x, ρ1⟩, e1, e⟩ := Option.bind_eq_some_iff.mp (show (xa ρ).bind _ = some (d, ρ') from e)
  obtain ⟨⟨y, ρ2⟩, e2, e⟩ := Option.bind_eq_some_iff.mp e
  obtain ⟨z, e3, e⟩ := Option.bind_eq_some_iff.mp e
  cases e
  refine ha Hk H σ ρ x ρ1 rl e1 _ fun v1 Hk1 H1 n1 rl1 r1 => ?_
  refine hb Hk1 H1 σ ρ1 y ρ2 rl1 e2 _ fun v2 Hk2 H2 n2 rl2 r2 => ?_
  exact hr Hk2 H2 v1 v2 x y _ rl2.kh (r1.mono n2.kk) r2 e3 Q fun v Hk3 H3 n3 r3 => q v Hk3 H3 ((n1.trans n2).trans n3.ns) (rl2.nx n3) r3
theorem sx_bin {op : Operator} {r : R2} {g : Dat → Dat → Option Dat} (ho : OpR X (binaryOp op) r) (hr : OkR C r g) (ha : SX X C a ua xa) (hb : SX X C b ub xb) : SX X C (.BinOp a op b pos) (tOp r ua ub) (xOp g xa xb) := ⟨pe_op ho ha.p hb.p, okx_op hr ha.o hb.o⟩
theorem sx_add (ha : SX X C a ua xa) (hb : SX X C b ub xb) : SX X C (.BinOp a .Add b pos) (tOp (rI0 fun i j => .int (i + j)) ua ub) (xOp dAdd xa xb) := sx_bin op_add okr_add ha hb
theorem sx_sub (ha : SX X C a ua xa) (hb : SX X C b ub xb) : SX X C (.BinOp a .Sub b pos) (tOp (rI0 fun i j => .int (i - j)) ua ub) (xOp dSub xa xb) := sx_bin op_sub okr_sub ha hb
theorem sx_mul (ha : SX X C a ua xa) (hb : SX X C b ub xb) : SX X C (.BinOp a .Mult b pos) (tOp (rI CMul fun i j => .int (i * j)) ua ub) (xOp dMul xa xb) := sx_bin op_mul okr_mul ha hb
theorem okr_ixT {K : PySem.W.Frag} : OkR C (rIxT K) dIxT := fun Hk H x y u w d hl ra rb e Q q => by
  cases u <;> cases w <;> simp only [dIxT, reduceCtorEq] at e
  obtain ⟨p, xs, rfl, h1, h2⟩ := ra.tup
  obtain ⟨v, h3, h4⟩ := atD_at h2 e
  exact ⟨p, xs, _, v, rfl, rb.int, SqT.of (hl _ _ h1), h3, q v Hk H (Nx.refl hl) h4⟩
theorem sx_ixT {K : PySem.W.Frag} (ha : SX X C a ua xa) (hb : SX X C b ub xb) (hs : PlainIx b := by exact fun _ _ => rfl) (hK : X.K = K := by rfl) : SX X C (.Subscript a b pos) (tOp (rIxT K) ua ub) (xOp dIxT xa xb) := by
  subst hK
  exact ⟨pe_ix ix_tup ha.p hb.p hs, okx_op okr_ixT ha.o hb.o⟩
theorem SpW.of {Hk H : Hp} {σ : L2.St} {ρ : En} {ws ds : List Dat} {vs : List V} {d : Dat} {ws' : List Dat} {Q : VK} {l : Addr} (rl : Rel C Hk H σ ρ) (hi : ρ[i]? = some (.ow ws)) (hl : σ[i]? = some (some (.ref l))) (rv : RpL C Hk ds vs) (e : F ws ds = some (d, ws'))
    (q : ∀ v Hk' H', Ns Hk H σ ρ Hk' H' σ (ρ.set i (.ow ws')) → Rel C Hk' H' σ (ρ.set i (.ow ws')) → Rp C Hk' d v → Q v H') : SpW C ds.length F (.ref l :: vs) H Q E0 := by
  obtain ⟨l', xs, h1, h2, h3, h4⟩ := rl.ow i ws hi
  rw [hl] at h1; cases h1
  refine ⟨l, vs, Hk, xs, ws, ds, d, ws', rfl, rv.length, rl.kh, h2, h3, h4, rv, e, fun v Hk' H' xs' kk kh fr sp k0 hy ry rd => ?_⟩
  obtain ⟨c1, c2⟩ := rl.chg hi hl kk kh fr sp k0 hy ry
  exact q v Hk' H' c2 c1 rd
theorem sx_call0 (i : Nat) {y : Str} (D : DefW X.prog X.w X.K X.mg X.base C k x 0 F) (hr : Room k X.A) (hN : X.N[i]? = some y := by rfl) (hv : Vis X.env.scope y := by first | exact Or.inl rfl | exact Or.inr (Or.inl rfl) | exact Or.inr (Or.inr rfl)) (hg : Gl X x := by rfl)
    (hd : (y == ("__debug__" : Str)) = false := by decide) (hcd : (y == ("__classdict__" : Str)) = false := by decide) (hdb : (x == ("__debug__" : Str)) = false := by decide)
    (he : starEach [.Name y p1] X.env = [(false, eval (.Name y p1) X.env)] := by rfl) :
    SX X C (.Call (.Name x p) [.Name y p1] [] pos) (tDefW C 0 F (tCons (tVar i) tNil)) (xCall0 i F) := by
  refine ⟨pe_defW D hr (pa_cons (pe_var hN hv hd hcd) pa_nil he) hg hdb he rfl, fun Hk H σ ρ d ρ' rl e Q q => ?_⟩
  obtain ⟨ws, e1, e⟩ := Option.bind_eq_some_iff.mp (show (fO i ρ).bind _ = some (d, ρ') from e)
  obtain ⟨⟨d1, ws'⟩, e2, e⟩ := Option.bind_eq_some_iff.mp e
  cases e
  have hi := fO_some e1
  obtain ⟨l, xs, h1, _⟩ := rl.ow i ws hi
  exact ⟨.ref l, h1, SpW.of rl hi h1 rpl_nil e2 q⟩
theorem sx_call1 (i : Nat) {y : Str} (D : DefW X.prog X.w X.K X.mg X.base C k x 1 F) (hr : Room k X.A) (ha : SX X C a ua xa) (hN : X.N[i]? = some y := by rfl) (hv : Vis X.env.scope y := by first | exact Or.inl rfl | exact Or.inr (Or.inl rfl) | exact Or.inr (Or.inr rfl)) (hg : Gl X x := by rfl)
    (hd : (y == ("__debug__" : Str)) = false := by decide) (hcd : (y == ("__classdict__" : Str)) = false := by decide) (hdb : (x == ("__debug__" : Str)) = false := by decide)
    (he : starEach [.Name y p1, a] X.env = (false, eval (.Name y p1) X.env) :: starEach [a] X.env := by rfl) (he2 : starEach [a] X.env = [(false, eval a X.env)] := by rfl) (hpl : (backTo pos (starEach [a] X.env)).any (·.1) = false := by rfl) :
    SX X C (.Call (.Name x p) [.Name y p1, a] [] pos) (tDefW C 1 F (tCons (tVar i) (tCons ua tNil))) (xCall1 i F xa) := by
  refine ⟨pe_defW D hr (pa_cons (pe_var hN hv hd hcd) (pa_cons ha.p pa_nil he2) he) hg hdb he hpl, fun Hk H σ ρ d ρ' rl e Q q => ?_⟩
  obtain ⟨ws0, e9, e⟩ := Option.bind_eq_some_iff.mp (show (fO i ρ).bind _ = some (d, ρ') from e)
  obtain ⟨⟨y1, ρ1⟩, e0, e⟩ := Option.bind_eq_some_iff.mp e
  obtain ⟨ws, e1, e⟩ := Option.bind_eq_some_iff.mp e
  obtain ⟨⟨d1, ws'⟩, e2, e⟩ := Option.bind_eq_some_iff.mp e
  cases e
  obtain ⟨l, xs, h1, _⟩ := rl.ow i ws0 (fO_some e9)
  refine ⟨.ref l, h1, ha.o Hk H σ ρ y1 ρ1 rl e0 _ fun v Hk1 H1 n1 rl1 r1 => ?_⟩
  exact SpW.of rl1 (fO_some e1) h1 (rpl_cons r1 rpl_nil) e2 fun v Hk2 H2 n2 rl2 r2 => q v Hk2 H2 (n1.trans n2) rl2 r2
end
/-! ### statements -/
inductive Fw where
  | nx (ρ : En) | rt (d : Dat) (ρ : En)
/-- slot 0 keeps its list -/
def OkSw (C : Addr) (t : TS) (s : En → Option Fw) : Prop := ∀ (Hk H : Hp) (σ : L2.St) (ρ : En) (r : Fw), Rel C Hk H σ ρ → s ρ = some r → ∀ D : Ends,
  (∀ ρ', r = .nx ρ' → ∀ σ' Hk' H', Ns Hk H σ ρ Hk' H' σ' ρ' → Rel C Hk' H' σ' ρ' → σ'[0]? = σ[0]? → D.nx σ' H') → (∀ d ρ', r = .rt d ρ' → ∀ v σ' Hk' H', Ns Hk H σ ρ Hk' H' σ' ρ' → Rel C Hk' H' σ' ρ' → σ'[0]? = σ[0]? → Rp C Hk' d v → D.rt v H') → t D σ H
structure SV (X : Cx) (C : Addr) (st : Stmt) (t : TS) (s : En → Option Fw) : Prop where
  p : PS X st t
  o : OkSw C t s
structure SVs (X : Cx) (C : Addr) (st : List Stmt) (t : TS) (s : En → Option Fw) : Prop where
  p : PSs X st t
  o : OkSw C t s
def vNext : En → Option Fw := fun ρ => some (.nx ρ)
def vSeq (a b : En → Option Fw) : En → Option Fw := fun ρ => (a ρ).bind fun r => match r with
  | .nx ρ' => b ρ'
  | .rt d ρ' => some (.rt d ρ')
def vSet (i : Nat) (f : XF) : En → Option Fw := fun ρ => (f ρ).bind fun p => some (.nx (p.2.set i (.fz p.1)))
def vIf (t : En → Option Bool) (a b : En → Option Fw) : En → Option Fw := fun ρ => (t ρ).bind fun c => match c with
  | true => a ρ
  | false => b ρ
def vRet (f : XF) : En → Option Fw := fun ρ => (f ρ).bind fun p => some (.rt p.1 p.2)
def vNever : En → Option Fw := fun _ => none
def vSetI (i : Nat) (g : En → Option Dat) (f : En → Option Dat) : En → Option Fw := fun ρ => (f ρ).bind fun d => (fO i ρ).bind fun ds => (g ρ).bind fun k => (intOf k).bind fun k => (ixN ds.length k).bind fun j => some (.nx (ρ.set i (.ow (ds.set j d))))
def forGoV (h : Dat → En → Option En) (b : En → Option Fw) : List Dat → En → Option Fw
  | [], ρ => some (.nx ρ)
  | d :: ds, ρ => (h d ρ).bind fun ρ1 => (b ρ1).bind fun r => match r with
    | .nx ρ2 => forGoV h b ds ρ2
    | .rt v ρ2 => some (.rt v ρ2)
def vFor (it : En → Option (List Dat)) (i : Nat) (b : En → Option Fw) : En → Option Fw := fun ρ => (it ρ).bind fun ds => forGoV (gN i) b ds ρ
section
variable {C : Addr} {X : Cx} {st : Stmt} {rest sts sts' : List Stmt} {t u : TS} {s s' : En → Option Fw} {e a b c : Expr} {pos : Pos} {ue ua ub : TE} {vc : TT} {f fa fb : En → Option Dat} {xf : XF} {la : En → Option (List Dat)} {ft : En → Option Bool}
theorem vv_nil : SVs X C [] tNext vNext := ⟨pss_nil, fun Hk H σ ρ r rl e D hn hr => by
  cases e
  exact hn ρ rfl σ Hk H (Ns.refl rl.kh) rl rfl⟩
theorem okv_seq (h1 : OkSw C t s) (h2 : OkSw C u s') : OkSw C (tSeq t u) (vSeq s s') := fun Hk H σ ρ r rl e D hn hr => by
  obtain ⟨r1, e1, e⟩ := Option.bind_eq_some_iff.mp (show (s ρ).bind _ = some r from e)
  refine h1 Hk H σ ρ r1 rl e1 { D with nx := u D } (fun ρ1 z σ1 Hk1 H1 n1 rl1 k1 => ?_) (fun d ρ1 z v σ1 Hk1 H1 n1 rl1 k1 rv => ?_)
  · subst z
    exact h2 Hk1 H1 σ1 ρ1 r rl1 e D (fun ρ2 z σ2 Hk2 H2 n2 rl2 k2 => hn ρ2 z σ2 Hk2 H2 (n1.trans n2) rl2 (k2.trans k1)) (fun d ρ2 z v σ2 Hk2 H2 n2 rl2 k2 rv => hr d ρ2 z v σ2 Hk2 H2 (n1.trans n2) rl2 (k2.trans k1) rv)
  · subst z
    cases e
    exact hr d ρ1 rfl v σ1 Hk1 H1 n1 rl1 k1 rv
theorem vv_cons (h1 : SV X C st t s) (h2 : SVs X C rest u s') : SVs X C (st :: rest) (tSeq t u) (vSeq s s') := ⟨pss_cons h1.p h2.p, okv_seq h1.o h2.o⟩
theorem vv_one (h1 : SV X C st t s) : SVs X C [st] t s := ⟨pss_one h1.p, h1.o⟩
theorem okv_set {i : Nat} (he : OkX C ue xf) (h0 : i ≠ 0) : OkSw C (tAsg ue (gName i)) (vSet i xf) := fun Hk H σ ρ r rl e D hn hr => by
  obtain ⟨⟨d, ρ1⟩, e1, e⟩ := Option.bind_eq_some_iff.mp (show (xf ρ).bind _ = some r from e)
  cases e
  refine he Hk H σ ρ d ρ1 rl e1 _ fun v Hk1 H1 n1 rl1 r1 => ?_
  exact hn _ rfl _ Hk1 H1 (n1.trans (ns_slots rl1.kh fun l => own_setF)) (rl1.setF r1) (List.getElem?_set_ne h0)
theorem vv_set (i : Nat) {x : Str} {pos' : Pos} (hN : X.N.Nodup) (he : SX X C e ue xf) (h0 : i ≠ 0 := by decide) (hi : X.N[i]? = some x := by rfl) (hx : Loc X.env.scope x := by first | exact .inl rfl | exact .inr rfl) (hs : swapsWith e (some (.Name x pos')) pos.line X.env = pure false := by rfl) (hf : X.fn x = true ∨ X.env.scope.names.lookup x = some .local := by first | exact .inl rfl | exact .inr rfl) :
    SV X C (.Assign [.Name x pos'] e pos) (tAsg ue (gName i)) (vSet i xf) := ⟨ps_set hN hi hx he.p hs hf, okv_set he.o h0⟩
theorem vv_if (hc : ST X C c vc ft) (h1 : SVs X C sts t s) (h2 : SVs X C sts' u s') : SV X C (.If c sts sts' pos) (tIfS vc t u) (vIf ft s s') := by
  refine ⟨ps_if hc.p h1.p h2.p, fun Hk H σ ρ r rl e D hn hr => ?_⟩
  obtain ⟨k, e1, e⟩ := Option.bind_eq_some_iff.mp (show (ft ρ).bind _ = some r from e)
  refine hc.o Hk H σ ρ k rl e1 _ fun Hk1 H1 n1 => ?_
  cases k with
  | true => exact iteT (h1.o Hk1 H1 σ ρ r (rl.nx n1) e D (fun ρ2 z σ2 Hk2 H2 n2 rl2 k2 => hn ρ2 z σ2 Hk2 H2 (n1.ns.trans n2) rl2 k2) (fun d ρ2 z v σ2 Hk2 H2 n2 rl2 k2 rv => hr d ρ2 z v σ2 Hk2 H2 (n1.ns.trans n2) rl2 k2 rv))
  | false => exact iteF (h2.o Hk1 H1 σ ρ r (rl.nx n1) e D (fun ρ2 z σ2 Hk2 H2 n2 rl2 k2 => hn ρ2 z σ2 Hk2 H2 (n1.ns.trans n2) rl2 k2) (fun d ρ2 z v σ2 Hk2 H2 n2 rl2 k2 rv => hr d ρ2 z v σ2 Hk2 H2 (n1.ns.trans n2) rl2 k2 rv))
theorem vv_ret (he : SX X C e ue xf) : SV X C (.Return (some e) pos) (tRet ue) (vRet xf) := by
  refine ⟨ps_ret he.p, fun Hk H σ ρ r rl e D hn hr => ?_⟩
  obtain ⟨⟨d, ρ1⟩, e1, e⟩ := Option.bind_eq_some_iff.mp (show (xf ρ).bind _ = some r from e)
  cases e
  exact he.o Hk H σ ρ d ρ1 rl e1 _ fun v Hk1 H1 n1 rl1 r1 => hr d ρ1 rfl v σ Hk1 H1 n1 rl1 rfl r1
theorem vv_never : SV X C st tNever vNever := ⟨ps_never, fun Hk H σ ρ r rl e D hn hr => by cases e⟩
theorem vvs_never : SVs X C sts tNever vNever := ⟨pss_never, fun Hk H σ ρ r rl e D hn hr => by cases e⟩
theorem vv_setI (i : Nat) {x : Str} {p1 p2 : Pos} {k : Expr} {uk : TE} {fk : En → Option Dat} (he : SE X C e ue f) (hk : SE X C k uk fk) (hN : X.N[i]? = some x := by rfl) (hv : Vis X.env.scope x := by first | exact Or.inl rfl | exact Or.inr (Or.inl rfl) | exact Or.inr (Or.inr rfl))
    (hd : (x == ("__debug__" : Str)) = false := by decide) (hcd : (x == ("__classdict__" : Str)) = false := by decide)
    (ha : ∀ v, assign (.Subscript (.Name x p1) k p2) X.env v = (do
      let ov ← holding [v] (eval (.Name x p1) X.env)
      let iv ← holding [v, ov] (eval k X.env)
      standAt p2
      holding [v, ov, iv] (setItem ov iv v)
      release [v, ov, iv] []) := by intro _; rfl)
    (hs : swapsWithSole [.Subscript (.Name x p1) k p2] e pos.line X.env = pure false := by rfl) (hw : swappedStores [.Subscript (.Name x p1) k p2] e X.env = pure none := by rfl)
    (h1 : (assignEach [.Subscript (.Name x p1) k p2] X.env).map (·.2) = [assign (.Subscript (.Name x p1) k p2) X.env] := by rfl) :
    SV X C (.Assign [.Subscript (.Name x p1) k p2] e pos) (tAsg ue (gSub (tVar i) uk rSetL)) (vSetI i fk f) := by
  refine ⟨ps_asg he.p (pg_sub (pe_var hN hv hd hcd) hk.p set_list ha) hs hw h1, fun Hk H σ ρ r rl e D hn hr => ?_⟩
  obtain ⟨d, e0, e⟩ := Option.bind_eq_some_iff.mp (show (f ρ).bind _ = some r from e)
  obtain ⟨ds, e1, e⟩ := Option.bind_eq_some_iff.mp e
  obtain ⟨kd, e2, e⟩ := Option.bind_eq_some_iff.mp e
  obtain ⟨ki, e3, e⟩ := Option.bind_eq_some_iff.mp e
  obtain ⟨j, e4, e⟩ := Option.bind_eq_some_iff.mp e
  cases e
  cases kd <;> simp only [intOf, reduceCtorEq] at e3
  cases e3
  have ho := fO_some e1
  obtain ⟨l, xs, h1, h2, h3, h4⟩ := rl.ow i ds ho
  refine he.o Hk H σ ρ d rl e0 _ fun v Hk1 H1 n1 r1 => ?_
  refine ⟨.ref l, h1, hk.o Hk1 H1 σ ρ _ (rl.nx n1) e2 _ fun v2 Hk2 H2 n2 r2 => ?_⟩
  have n12 := n1.trans n2
  refine ⟨l, xs, _, j, rfl, r2.int, n12.hh _ _ h3, by rw [h4.length]; exact e4, ?_⟩
  obtain ⟨rl2, ns2⟩ := (rl.nx n12).mut ho h1 (RpL.set (r1.mono n2.kk) j (h4.mono n12.kk))
  exact hn _ rfl σ Hk2 _ (n12.ns.trans ns2) rl2 rfl
theorem vv_for {iter : Expr} {wi : TI} (i : Nat) {x : Str} {pos' : Pos} (hp : PassesOwn (model X.prog X.w) X.A X.env X.xe) (hc : X.calm = true) (hN : X.N.Nodup) (hi : SI X C (.Name x pos') iter wi la) (hb : SVs X C sts t s) (h0 : i ≠ 0 := by decide) (hxi : X.N[i]? = some x := by rfl) (hx : Loc X.env.scope x := by first | exact .inl rfl | exact .inr rfl)
    (hf : X.fn x = true ∨ X.env.scope.names.lookup x = some .local := by first | exact .inl rfl | exact .inr rfl) (hs : ∀ x, foldedSetIterable iter X.env x = pure x := by intro _; rfl) :
    SV X C (.For (.Name x pos') iter sts [] pos) (tFor wi (gName i) t) (vFor la i s) := by
  refine ⟨ps_for hp hc hi.p (pg_name hN hxi hx hf) hb.p hs, fun Hk H σ ρ r rl e D hn hr => ?_⟩
  obtain ⟨ds, e1, e⟩ := Option.bind_eq_some_iff.mp (show (la ρ).bind _ = some r from e)
  refine hi.o Hk H σ ρ ds rl e1 _ fun J Hk1 H1 n1 W => ?_
  let Pv : Nat → L2.St → Hp → Prop := fun j σ' H' => ∃ (Hk' : Hp) (ρ' : En), Ns Hk H σ ρ Hk' H' σ' ρ' ∧ Le Hk1 Hk' ∧ Rel C Hk' H' σ' ρ' ∧ σ'[0]? = σ[0]? ∧ forGoV (gN i) s (ds.drop j) ρ' = some r
  refine ⟨fun j m σ' H' => m = ds.length - j ∧ j ≤ ds.length ∧ Pv j σ' H', ⟨ds.length, by simp, Nat.zero_le _, Hk1, ρ, n1.ns, Le.refl _, rl.nx n1, rfl, e⟩, ?_⟩
  rintro j m σ' H' ⟨rfl, hi', Hk', ρ', ns', hk1, rl', k0, hgo⟩
  by_cases hlt : j < ds.length
  · refine .inr ⟨W.go j _ hlt (hk1.trans rl'.kh), Pv (j + 1), fun σ2 H2 p' => ⟨ds.length - (j + 1), by omega, rfl, hlt, p'⟩, fun x H2 y => ?_⟩
    obtain ⟨d, Hk2, e2, n2, rd⟩ := W.yld j _ x H2 hlt (hk1.trans rl'.kh) y Hk' hk1 rl'.kh
    have edrop : ds.drop j = d :: ds.drop (j + 1) := by
      rw [List.drop_eq_getElem_cons hlt]
      have : ds[j]? = some ds[j] := List.getElem?_eq_getElem hlt
      rw [this] at e2; cases e2; rfl
    rw [edrop] at hgo
    obtain ⟨r1, e4, hgo⟩ := Option.bind_eq_some_iff.mp (show (s (ρ'.set i (.fz d))).bind _ = some r from hgo)
    have rl3 : Rel C Hk2 H2 (σ'.set i (some x)) (ρ'.set i (.fz d)) := (rl'.nx n2).setF rd
    have ns3 : Ns Hk H σ ρ Hk2 H2 (σ'.set i (some x)) (ρ'.set i (.fz d)) := (ns'.trans n2.ns).trans (ns_slots n2.kh fun l => own_setF)
    have k3 : (σ'.set i (some x))[0]? = σ[0]? := (List.getElem?_set_ne h0).trans k0
    refine hb.o Hk2 H2 _ _ r1 rl3 e4 _ (fun ρ4 z σ4 Hk4 H4 n4 rl4 k4 => ?_) (fun dv ρ4 z v σ4 Hk4 H4 n4 rl4 k4 rv => ?_)
    · subst z
      exact ⟨Hk4, ρ4, ns3.trans n4, hk1.trans (n2.kk.trans n4.kk), rl4, k4.trans k3, hgo⟩
    · subst z
      cases hgo
      exact hr dv ρ4 rfl v σ4 Hk4 H4 (ns3.trans n4) rl4 (k4.trans k3) rv
  · have z : j = ds.length := by omega
    subst z
    rw [List.drop_length] at hgo
    cases hgo
    exact .inl ⟨W.stop _ (hk1.trans rl'.kh), hn ρ' rfl σ' Hk' H' ns' rl' k0⟩
end
/-! ### a def from its body -/
def runW (s : En → Option Fw) (n : Nat) (ws ds : List Dat) : Option (Dat × List Dat) := (s (.ow ws :: (ds.map Sl.fz ++ List.replicate n .no))).bind fun r => match r with
  | .rt d ρ => (fO 0 ρ).bind fun ws' => some (d, ws')
  | .nx ρ => (fO 0 ρ).bind fun ws' => some (.non, ws')
theorem startw_rel {C : Addr} {Hk H : Hp} {N : List Str} {l : Addr} {xs vs : List V} {ws ds : List Dat} (h : Le Hk H) (k0 : Hk l = none) (hl : H l = some (.lst xs)) (rw_ : RpL C Hk ws xs) (r : RpL C Hk ds vs) (hn : vs.length + 1 ≤ N.length) :
    Rel C Hk H (L2.start N (.ref l :: vs)) (.ow ws :: (ds.map Sl.fz ++ List.replicate (N.length - 1 - ds.length) .no)) ∧ ∀ m, Own (L2.start N (.ref l :: vs)) (.ow ws :: (ds.map Sl.fz ++ List.replicate (N.length - 1 - ds.length) .no)) m → m = l := by
  have hl' : vs.length = ds.length := r.length
  have nofz : ∀ (i : Nat) (es : List Dat), ¬ (ds.map Sl.fz ++ List.replicate (N.length - 1 - ds.length) Sl.no)[i]? = some (.ow es) := fun i es e => by
    by_cases z : i < ds.length
    · rw [List.getElem?_append_left (by simpa using z), List.getElem?_map] at e
      cases q : ds[i]? <;> rw [q] at e <;> cases e
    · rw [List.getElem?_append_right (by simpa using z)] at e
      have := List.mem_of_getElem? e
      rw [List.mem_replicate] at this
      cases this.2
  have st : L2.start N (.ref l :: vs) = some (V.ref l) :: ((vs.map some) ++ List.replicate (N.length - (vs.length + 1)) none) := by
    unfold L2.start; simp
  refine ⟨⟨h, by rw [st]; simp [hl']; omega, fun i d e => ?_, fun i es e => ?_, fun i j m a b e e' _ _ => ?_⟩, fun m ⟨i, es, e, h1⟩ => ?_⟩
  · cases i with
    | zero => cases e
    | succ i =>
      have e : (ds.map Sl.fz ++ List.replicate (N.length - 1 - ds.length) Sl.no)[i]? = some (.fz d) := e
      by_cases z : i < ds.length
      · rw [List.getElem?_append_left (by simpa using z), List.getElem?_map] at e
        cases q : ds[i]? with
        | none => rw [q] at e; cases e
        | some d' =>
          rw [q] at e
          cases e
          obtain ⟨x, h1, h2⟩ := r.get q
          refine ⟨x, ?_, h2⟩
          rw [st, List.getElem?_cons_succ, List.getElem?_append_left (by simpa [hl'] using z), List.getElem?_map, h1]
          rfl
      · rw [List.getElem?_append_right (by simpa using z)] at e
        have := List.mem_of_getElem? e
        rw [List.mem_replicate] at this
        cases this.2
  · cases i with
    | zero => cases e; exact ⟨l, xs, by rw [st]; rfl, k0, hl, rw_⟩
    | succ i => exact absurd e (nofz i es)
  · cases i with
    | zero =>
      cases j with
      | zero => rfl
      | succ j => exact absurd e' (nofz j b)
    | succ i => exact absurd e (nofz i a)
  · cases i with
    | zero => rw [st] at h1; cases h1; rfl
    | succ i => exact absurd e (nofz i es)
section
variable {P : Program} {w : World} {K : PySem.W.Frag} {mg : Str → Option Value} {base : Heap} {C : Addr} {x qual : Str} {params : Arguments} {body : List Stmt} {scope : Scope} {dvs : List V} {kws : List (Str × V)} {f : Addr} {fd : FuncData} {N ps : List Str} {k n : Nat}
theorem fn_spw {s : En → Option Fw} (F : FunD K x qual params body scope dvs kws f fd) (S : FnScope N ps scope) (hn : ps.length = n + 1) (hps : ps.length ≤ N.length)
    (hb : ∀ (cdv : Value) (A : Around) (outer : List Env) (sh : Shared) (H : Hp), Room k (A.deeper (PyProof.Rows.envOfC qual scope sh.heap.objs.size f cdv)) → ∃ t, SVs (cxOf CX0 P w K mg base N qual scope f cdv A outer sh H E0).nox C body t s) :
    FnOk P w K mg base CX0 (k + 1) f fd ps (SpW C n (runW s (N.length - 1 - n))) := by
  refine F.ok S (fun vs H Q E h => ?_) (fun cdv A outer sh H vs Q E hr h => ?_)
  · obtain ⟨l, rest, Hk, xs, ws, ds, d, ws', rfl, hl, _⟩ := h
    rw [List.length_cons, hl, hn]
  obtain ⟨l, rest, Hk, xs, ws, ds, d, ws', rfl, hl, kh, k0, hxs, rws, rds, e, q⟩ := h
  obtain ⟨t, hp, ho⟩ := hb cdv A outer sh H hr
  have hp' : PSs (cxOf CX0 P w K mg base N qual scope f cdv A outer sh H E) body t := PSs.nox hp
  refine ⟨t, hp', ?_⟩
  obtain ⟨rl, own⟩ := startw_rel (N := N) kh k0 hxs rws rds (by omega)
  have hd : ds.length = n := by rw [← rds.length]; exact hl
  unfold runW at e
  rw [← hd] at e
  obtain ⟨fl, e1, e2⟩ := Option.bind_eq_some_iff.mp e
  have s0 : (L2.start N (.ref l :: rest))[0]? = some (some (V.ref l)) := by unfold L2.start; simp
  have fin : ∀ {ρ' : En} {ws2 : List Dat} {σ' : L2.St} {Hk' H' : Hp}, fO 0 ρ' = some ws2 → ws2 = ws' → Ns Hk H (L2.start N (.ref l :: rest)) (.ow ws :: (ds.map Sl.fz ++ List.replicate (N.length - 1 - ds.length) .no)) Hk' H' σ' ρ' → Rel C Hk' H' σ' ρ' → σ'[0]? = (L2.start N (.ref l :: rest))[0]? →
      Le Hk Hk' ∧ Le Hk' H' ∧ (∀ a o, H a = some o → a ≠ l → H' a = some o) ∧ (∀ a, Hk a = none → H a ≠ none → a ≠ l → Hk' a = none) ∧ Hk' l = none ∧ ∃ xs', H' l = some (.lst xs') ∧ RpL C Hk' ws' xs' := by
    intro ρ' ws2 σ' Hk' H' e3 e4 ns rl' k1
    subst e4
    obtain ⟨l', xs', h1, h2, h3, h4⟩ := rl'.ow 0 _ (fO_some e3)
    rw [k1, s0] at h1
    cases h1
    exact ⟨ns.kk, ns.kh, fun a o h ne => ns.fr a o h fun z => ne (own a z), fun a h h' ne => ns.sp a h h' fun z => ne (own a z), h2, xs', h3, h4⟩
  refine ho Hk H _ _ fl rl e1 _ (fun ρ' z σ' Hk' H' ns rl' k1 => ?_) (fun dv ρ' z v σ' Hk' H' ns rl' k1 rv => ?_)
  · subst z
    obtain ⟨ws2, e3, e4⟩ := Option.bind_eq_some_iff.mp e2
    simp only [Option.some.injEq, Prod.mk.injEq] at e4
    obtain ⟨rfl, rfl⟩ := e4
    obtain ⟨c1, c2, c3, c4, c5, xs', c6, c7⟩ := fin e3 rfl ns rl' k1
    exact q .non Hk' H' xs' c1 c2 c3 c4 c5 c6 c7 rp_non
  · subst z
    obtain ⟨ws2, e3, e4⟩ := Option.bind_eq_some_iff.mp e2
    simp only [Option.some.injEq, Prod.mk.injEq] at e4
    obtain ⟨rfl, rfl⟩ := e4
    obtain ⟨c1, c2, c3, c4, c5, xs', c6, c7⟩ := fin e3 rfl ns rl' k1
    exact q v Hk' H' xs' c1 c2 c3 c4 c5 c6 c7 rv
theorem defw {G : List Dat → List Dat → Option (Dat × List Dat)} (F : FunD K x qual params body scope [] kws f fd) (Fk : FnOk P w K mg base CX0 k f fd ps (SpW C n G)) (hm : mg x = some (.ref f)) (hb : Binds K fd ps []) : DefW P w K mg base C k x n G :=
  ⟨f, fd, ps, Fk, hm, F.kp, hb⟩
end
end L3
set_option maxHeartbeats 4000000
namespace L3
open PySem L2 RZ
section
variable {P : Program} {w : World} {K : PySem.W.Frag} {mg : Str → Option Value} {base : Heap}
def s_classes : En → Option Fl := sSeq (sExpr (fC F_check_discriminant (fCons (fV 0) (fNil))))
  (sRet (fC dTup (fSq (fC F_class_list (fCons (fV 0) (fNil))))))
def F_classes : List Dat → Option Dat := runF s_classes 0
theorem sc_classes : FnScope ["discriminant"] ["discriminant"] (defScope (top 83)) := ⟨rfl, rfl, rfl, by decide +kernel, rfl, by decide +kernel, by decide +kernel⟩
theorem d_classes (W : Wf K mg) : DefOk P w K mg base (CF K) 12 "classes" 1 F_classes := by
  obtain ⟨fd, F⟩ := W.d 48 rfl
  have nd := sc_classes.nd
  exact defok F (fn_spf (k := 11) F sc_classes (by decide) fun cdv A outer sh H hr => ⟨_, (ss_cons (ss_expr (se_call (d_check_discriminant W) (hr.mono (by decide)) (sa_cons (se_var 0) sa_nil)))
  (ss_one (ss_ret (se_tupofK (K := K) W.b_tuple (SE.sq (se_call (d_class_list W) (hr.mono (by decide)) (sa_cons (se_var 0) sa_nil)))))))⟩) (W.g 48 rfl) (F.bindsN fun _ _ _ _ _ _ us hl => match us, hl with | [_], _ => rfl)
def s_law_d : En → Option Fl := sRet (f2 dSub (f2 dMul (fIxL (fSq (fV 0)) (fK (.int 1))) (fIxL (fSq (fV 0)) (fK (.int 1)))) (f2 dMul (f2 dMul (fK (.int 4)) (fIxL (fSq (fV 0)) (fK (.int 0)))) (fIxL (fSq (fV 0)) (fK (.int 2)))))
def F_law_d : List Dat → Option Dat := runF s_law_d 0
theorem sc_law_d : FnScope ["_law_own"] ["_law_own"] (defScope (top 109)) := ⟨rfl, rfl, rfl, by decide +kernel, rfl, by decide +kernel, by decide +kernel⟩
theorem d_law_d (W : Wf K mg) : DefOk P w K mg base (CF K) 1 "_law_d" 1 F_law_d := by
  obtain ⟨fd, F⟩ := W.d 70 rfl
  have nd := sc_law_d.nd
  exact defok F (fn_spf (k := 0) F sc_law_d (by decide) fun cdv A outer sh H hr => ⟨_, (ss_one (ss_ret (se_sub (se_mul (se_ixK (K := K) (SE.sq (se_var 0)) se_int) (se_ixK (K := K) (SE.sq (se_var 0)) se_int)) (se_mul (se_mul se_int (se_ixK (K := K) (SE.sq (se_var 0)) se_int)) (se_ixK (K := K) (SE.sq (se_var 0)) se_int)))))⟩) (W.g 70 rfl) (F.bindsN fun _ _ _ _ _ _ us hl => match us, hl with | [_], _ => rfl)
def s_law_root : En → Option Fl := sSeq (sPar [1, 2] (bF (fK (.int 0)) (bF (fK (.int 1)) (bNil))))
  (sSeq (sWhile (fB (f2 dLe (f2 dMul (fV 2) (fV 2)) (fV 0))) (sSet 2 (f2 dMul (fK (.int 2)) (fV 2))))
  (sSeq (sWhile (fB (f2 dGt (fV 2) (fK (.int 0)))) (sSeq (sIf (fB (f2 dLe (f2 dMul (f2 dAdd (fV 1) (fV 2)) (f2 dAdd (fV 1) (fV 2))) (fV 0))) (sSet 1 (f2 dAdd (fV 1) (fV 2))) (sNext))
  (sSet 2 (f2 dDiv (fV 2) (fK (.int 2))))))
  (sRet (fV 1))))
def F_law_root : List Dat → Option Dat := runF s_law_root 2
theorem sc_law_root : FnScope ["_law_value", "_law_found", "_law_step"] ["_law_value"] (defScope (top 110)) := ⟨rfl, rfl, rfl, by decide +kernel, rfl, by decide +kernel, by decide +kernel⟩
theorem d_law_root (W : Wf K mg) : DefOk P w K mg base (CF K) 1 "_law_root" 1 F_law_root := by
  obtain ⟨fd, F⟩ := W.d 71 rfl
  have nd := sc_law_root.nd
  exact defok F (fn_spf (k := 0) F sc_law_root (by decide) fun cdv A outer sh H hr => ⟨_, (ss_cons (ss_parT rfl (snm_cons 1 nd (snm_cons 2 nd snm_nil)) (sb_f se_int (sb_f se_int sb_nil)))
  (ss_cons (ss_while PassesOwn.never (st_le (se_mul (se_var 2) (se_var 2)) (se_var 0)) (ss_one (ss_set 2 nd (se_mul se_int (se_var 2)))))
  (ss_cons (ss_while PassesOwn.never (st_gt (se_var 2) se_int) (ss_cons (ss_if (st_le (se_mul (se_add (se_var 1) (se_var 2)) (se_add (se_var 1) (se_var 2))) (se_var 0)) (ss_one (ss_set 1 nd (se_add (se_var 1) (se_var 2)))) ss_nil)
  (ss_one (ss_set 2 nd (se_div (se_var 2) se_int)))))
  (ss_one (ss_ret (se_var 1))))))⟩) (W.g 71 rfl) (F.bindsN fun _ _ _ _ _ _ us hl => match us, hl with | [_], _ => rfl)
def s_law_is_whole : En → Option Fl := sSeq (sIf (fOr (fNot (fB (fChain dLe dLe (f1 dNeg (fK (.int 100000))) (fV 0) (fK (.int 1000))))) (fB (f2 dGt (f2 dMod (fC dInt (fCons (fV 0) fNil)) (fK (.int 4))) (fK (.int 1))))) (sRet (fK (.bl false))) (sNext))
  (sRet (fOrV (f2 dLt (fV 0) (fK (.int 0))) (f2 dNe (f2 dMul (fC F_law_root (fCons (fV 0) (fNil))) (fC F_law_root (fCons (fV 0) (fNil)))) (fV 0))))
def F_law_is_whole : List Dat → Option Dat := runF s_law_is_whole 0
theorem sc_law_is_whole : FnScope ["_law_whole"] ["_law_whole"] (defScope (top 111)) := ⟨rfl, rfl, rfl, by decide +kernel, rfl, by decide +kernel, by decide +kernel⟩
theorem d_law_is_whole (W : Wf K mg) : DefOk P w K mg base (CF K) 2 "_law_is_whole" 1 F_law_is_whole := by
  obtain ⟨fd, F⟩ := W.d 72 rfl
  have nd := sc_law_is_whole.nd
  exact defok F (fn_spf (k := 1) F sc_law_is_whole (by decide) fun cdv A outer sh H hr => ⟨_, (ss_cons (ss_if (SWt.st (sw_or (st_not (st_le_le (se_neg se_int) (se_var 0) se_int)) (sw_or1 (st_gt (se_mod (se_intof W.b_int (se_var 0)) se_int) se_int)))) (ss_one (ss_ret se_bl)) ss_nil)
  (ss_one (ss_ret (se_or (se_lt (se_var 0) se_int) (se_one (se_ne (se_mul (se_call (d_law_root W) (hr.mono (by decide)) (sa_cons (se_var 0) sa_nil)) (se_call (d_law_root W) (hr.mono (by decide)) (sa_cons (se_var 0) sa_nil))) (se_var 0)))))))⟩) (W.g 72 rfl) (F.bindsN fun _ _ _ _ _ _ us hl => match us, hl with | [_], _ => rfl)
def s_law_gcd : En → Option Fl := sSeq (sPar [0, 1] (bF (fC dAbs (fCons (fV 0) fNil)) (bF (fC dAbs (fCons (fV 1) fNil)) (bNil))))
  (sSeq (sWhile (fB (f2 dGt (fV 1) (fK (.int 0)))) (sPar [0, 1] (bF (fV 1) (bF (f2 dMod (fC dInt (fCons (fV 0) fNil)) (fV 1)) (bNil)))))
  (sRet (fV 0)))
def F_law_gcd : List Dat → Option Dat := runF s_law_gcd 0
theorem sc_law_gcd : FnScope ["_law_fore", "_law_aft"] ["_law_fore", "_law_aft"] (defScope (top 112)) := ⟨rfl, rfl, rfl, by decide +kernel, rfl, by decide +kernel, by decide +kernel⟩
theorem d_law_gcd (W : Wf K mg) : DefOk P w K mg base (CF K) 1 "_law_gcd" 2 F_law_gcd := by
  obtain ⟨fd, F⟩ := W.d 73 rfl
  have nd := sc_law_gcd.nd
  exact defok F (fn_spf (k := 0) F sc_law_gcd (by decide) fun cdv A outer sh H hr => ⟨_, (ss_cons (ss_par2 0 1 rfl nd (sb_f (se_abs W.b_abs (se_var 0)) (sb_f (se_abs W.b_abs (se_var 1)) sb_nil)))
  (ss_cons (ss_while PassesOwn.never (st_gt (se_var 1) se_int) (ss_one (ss_par2 0 1 rfl nd (sb_f (se_var 1) (sb_f (se_mod (se_intof W.b_int (se_var 0)) (se_var 1)) sb_nil)))))
  (ss_one (ss_ret (se_var 0)))))⟩) (W.g 73 rfl) (F.bindsN fun _ _ _ _ _ _ us hl => match us, hl with | [_, _], _ => rfl)
def s_law_rests : En → Option Fl := sSeq (sPar [2, 3] (bF (fK (.int 0)) (bF (fC dAbs (fCons (fV 1) fNil)) (bNil))))
  (sSeq (sFor (fRng1 (fCons (f2 dMul (fK (.int 2)) (fV 3)) (fNil))) (gN 4) (sIf (fB (f2 dEq (f2 dMod (fC dInt (fCons (f2 dSub (f2 dMul (fV 4) (fV 4)) (fV 0)) fNil)) (f2 dMul (fK (.int 4)) (fV 3))) (fK (.int 0)))) (sSeq (sSet 5 (f2 dDiv (f2 dSub (f2 dMul (fV 4) (fV 4)) (fV 0)) (f2 dMul (fK (.int 4)) (fV 1))))
  (sIf (fB (f2 dEq (fC F_law_gcd (fCons (fC F_law_gcd (fCons (fV 1) (fCons (fV 4) (fNil)))) (fCons (fV 5) (fNil)))) (fK (.int 1)))) (sSet 2 (f2 dAdd (fV 2) (fK (.int 1)))) (sNext))) (sNext)))
  (sRet (fV 2)))
def F_law_rests : List Dat → Option Dat := runF s_law_rests 4
theorem sc_law_rests : FnScope ["_law_whole", "_law_number_here", "_law_found", "_law_wide", "_law_n", "_law_last"] ["_law_whole", "_law_number_here"] (defScope (top 114)) := ⟨rfl, rfl, rfl, by decide +kernel, rfl, by decide +kernel, by decide +kernel⟩
theorem d_law_rests (W : Wf K mg) : DefOk P w K mg base (CF K) 2 "_law_rests" 2 F_law_rests := by
  obtain ⟨fd, F⟩ := W.d 75 rfl
  have nd := sc_law_rests.nd
  exact defok F (fn_spf (k := 1) F sc_law_rests (by decide) fun cdv A outer sh H hr => ⟨_, (ss_cons (ss_par2 2 3 rfl nd (sb_f se_int (sb_f (se_abs W.b_abs (se_var 1)) sb_nil)))
  (ss_cons (ss_for PassesOwn.never rfl (si_rng1 W.b_range (sa_cons (se_mul se_int (se_var 3)) sa_nil)) (sg_name 4 nd) (ss_one (ss_if (st_eq (se_mod (se_intof W.b_int (se_sub (se_mul (se_var 4) (se_var 4)) (se_var 0))) (se_mul se_int (se_var 3))) se_int) (ss_cons (ss_set 5 nd (se_div (se_sub (se_mul (se_var 4) (se_var 4)) (se_var 0)) (se_mul se_int (se_var 1))))
  (ss_one (ss_if (st_eq (se_call (d_law_gcd W) (hr.mono (by decide)) (sa_cons (se_call (d_law_gcd W) (hr.mono (by decide)) (sa_cons (se_var 1) (sa_cons (se_var 4) sa_nil))) (sa_cons (se_var 5) sa_nil))) se_int) (ss_one (ss_set 2 nd (se_add (se_var 2) se_int))) ss_nil))) ss_nil)))
  (ss_one (ss_ret (se_var 2)))))⟩) (W.g 75 rfl) (F.bindsN fun _ _ _ _ _ _ us hl => match us, hl with | [_, _], _ => rfl)
def s_law_proper : En → Option Fl := sRet (fLst (fLc (fSq (fV 0)) (gN 1) (fB (f2 dEq (fC F_law_gcd (fCons (fIxL (fSq (fV 1)) (fK (.int 0))) (fCons (fIxL (fSq (fV 1)) (fK (.int 1))) (fNil)))) (fK (.int 1)))) (fV 1) [1]))
def F_law_proper : List Dat → Option Dat := runF s_law_proper 1
theorem sc_law_proper : FnScope ["_law_points", "_law_point"] ["_law_points"] (defScope (top 115)) := ⟨rfl, rfl, rfl, by decide +kernel, rfl, by decide +kernel, by decide +kernel⟩
theorem d_law_proper (W : Wf K mg) : DefOk P w K mg base (CF K) 2 "_law_proper" 1 F_law_proper := by
  obtain ⟨fd, F⟩ := W.d 76 rfl
  have nd := sc_law_proper.nd
  exact defok F (fn_spf (k := 1) F sc_law_proper (by decide) fun cdv A outer sh H hr => ⟨_, (ss_one (ss_ret (SL.se (sl_lc (own := [("_law_point", 1)]) rfl nd (blkOk_by (own := [("_law_point", 1)]) (by kernel_rfl)) (by decide) (SI.w (si_seqK (K := K) (se_var 0))) (fun _ _ _ _ _ => (sg_name 1 nd)) (fun _ _ _ _ _ => (sts_one (st_eq (se_call (d_law_gcd W) (hr.mono (by decide)) (sa_cons (se_ixK (K := K) (SE.sq (se_var 1)) se_int) (sa_cons (se_ixK (K := K) (SE.sq (se_var 1)) se_int) sa_nil))) se_int))) (fun _ _ _ _ _ => (se_var 1))))))⟩) (W.g 76 rfl) (F.bindsN fun _ _ _ _ _ _ us hl => match us, hl with | [_], _ => rfl)
def s_law_owned : En → Option Fl := sSeq (sIf (fB (f2 dGt (fC F_law_d (fCons (fV 1) (fNil))) (fK (.int 0)))) (sRet (fC F_law_proper (fCons (fC F_families (fCons (fV 0) (fCons (fV 2) (fNil)))) (fNil)))) (sNext))
  (sSeq (sSet 3 (f2 dAdd (fC F_law_root (fCons (f2 dDiv (f2 dMul (f2 dMul (fK (.int 4)) (fC dMaxL (fCons (fIxL (fSq (fV 1)) (fK (.int 0))) (fCons (fIxL (fSq (fV 1)) (fK (.int 2))) (fNil))))) (fC dAbs (fCons (fV 2) fNil))) (f2 dSub (fK (.int 0)) (fC F_law_d (fCons (fV 1) (fNil))))) (fNil))) (fK (.int 1))))
  (sRet (fC F_law_proper (fCons (fC F_solutions_in_box (fCons (fV 0) (fCons (fV 2) (fCons (fV 3) (fNil))))) (fNil)))))
def F_law_owned : List Dat → Option Dat := runF s_law_owned 1
theorem sc_law_owned : FnScope ["_law_mine", "_law_own", "_law_number_here", "_law_wide"] ["_law_mine", "_law_own", "_law_number_here"] (defScope (top 116)) := ⟨rfl, rfl, rfl, by decide +kernel, rfl, by decide +kernel, by decide +kernel⟩
theorem d_law_owned (W : Wf K mg) : DefOk P w K mg base (CF K) 14 "_law_owned" 3 F_law_owned := by
  obtain ⟨fd, F⟩ := W.d 77 rfl
  have nd := sc_law_owned.nd
  exact defok F (fn_spf (k := 13) F sc_law_owned (by decide) fun cdv A outer sh H hr => ⟨_, (ss_cons (ss_if (st_gt (se_call (d_law_d W) (hr.mono (by decide)) (sa_cons (se_var 1) sa_nil)) se_int) (ss_one (ss_ret (se_call (d_law_proper W) (hr.mono (by decide)) (sa_cons (se_call (d_families W) (hr.mono (by decide)) (sa_cons (se_var 0) (sa_cons (se_var 2) sa_nil))) sa_nil)))) ss_nil)
  (ss_cons (ss_set 3 nd (se_add (se_call (d_law_root W) (hr.mono (by decide)) (sa_cons (se_div (se_mul (se_mul se_int (se_maxLK (K := K) rfl W.b_max (SL.sw (sl_lst (sa_cons (se_ixK (K := K) (SE.sq (se_var 1)) se_int) (sa_cons (se_ixK (K := K) (SE.sq (se_var 1)) se_int) sa_nil)))))) (se_abs W.b_abs (se_var 2))) (se_sub se_int (se_call (d_law_d W) (hr.mono (by decide)) (sa_cons (se_var 1) sa_nil)))) sa_nil)) se_int))
  (ss_one (ss_ret (se_call (d_law_proper W) (hr.mono (by decide)) (sa_cons (se_call (d_solutions_in_box W) (hr.mono (by decide)) (sa_cons (se_var 0) (sa_cons (se_var 2) (sa_cons (se_var 3) sa_nil)))) sa_nil))))))⟩) (W.g 77 rfl) (F.bindsN fun _ _ _ _ _ _ us hl => match us, hl with | [_, _, _], _ => rfl)
def s_law_squares : En → Option Fl := sRet (fLst (fLc (fRng2 (fCons (fK (.int 1)) (fCons (f2 dAdd (fC dAbs (fCons (fV 0) fNil)) (fK (.int 1))) (fNil)))) (gN 1) (fB (f2 dEq (f2 dMod (fC dInt (fCons (fV 0) fNil)) (f2 dMul (fV 1) (fV 1))) (fK (.int 0)))) (fV 1) [1]))
def F_law_squares : List Dat → Option Dat := runF s_law_squares 1
theorem sc_law_squares : FnScope ["_law_number_here", "_law_k"] ["_law_number_here"] (defScope (top 117)) := ⟨rfl, rfl, rfl, by decide +kernel, rfl, by decide +kernel, by decide +kernel⟩
theorem d_law_squares (W : Wf K mg) : DefOk P w K mg base (CF K) 1 "_law_squares" 1 F_law_squares := by
  obtain ⟨fd, F⟩ := W.d 78 rfl
  have nd := sc_law_squares.nd
  exact defok F (fn_spf (k := 0) F sc_law_squares (by decide) fun cdv A outer sh H hr => ⟨_, (ss_one (ss_ret (SL.se (sl_lc (own := [("_law_k", 1)]) rfl nd (blkOk_by (own := [("_law_k", 1)]) (by kernel_rfl)) (by decide) (SI.w (si_rng2 W.b_range (sa_cons se_int (sa_cons (se_add (se_abs W.b_abs (se_var 0)) se_int) sa_nil)))) (fun _ _ _ _ _ => (sg_name 1 nd)) (fun _ _ _ _ _ => (sts_one (st_eq (se_mod (se_intof W.b_int (se_var 0)) (se_mul (se_var 1) (se_var 1))) se_int))) (fun _ _ _ _ _ => (se_var 1))))))⟩) (W.g 78 rfl) (F.bindsN fun _ _ _ _ _ _ us hl => match us, hl with | [_], _ => rfl)
def s_law_one_right : En → Option Fl := sSeq (sSet 4 (fC dAny (fLc (fSq (fLst (fKeysL (fV 3)))) (gN 5) (fYes) (f2 dInF (fV 0) (f2 dIxD (fV 3) (fV 5))) [5])))
  (sSeq (sIf (fB (f2 dNe (fC F_is_solved (fCons (fV 0) (fCons (fV 2) (fNil)))) (fV 4))) (sRet (fK (.bl false))) (sNext))
  (sSeq (sIf (fAnd (fB (f2 dGt (fC F_law_d (fCons (fV 1) (fNil))) (fK (.int 0)))) (fB (f2 dNe (f2 dNeD (fC F_families (fCons (fV 0) (fCons (fV 2) (fNil)))) (fTup (fNil))) (fV 4)))) (sRet (fK (.bl false))) (sNext))
  (sRet (f2 dEq (fC dNeNil (fUn (fC F_law_owned (fCons (fV 0) (fCons (fV 1) (fCons (fV 2) (fNil))))))) (f2 dInF (fV 0) (f2 dIxD (fV 3) (fK (.int 1))))))))
def F_law_one_right : List Dat → Option Dat := runF s_law_one_right 2
theorem sc_law_one_right : FnScope ["_law_mine", "_law_own", "_law_number_here", "_law_giving", "_law_due", "_law_k"] ["_law_mine", "_law_own", "_law_number_here", "_law_giving"] (defScope (top 118)) := ⟨rfl, rfl, rfl, by decide +kernel, rfl, by decide +kernel, by decide +kernel⟩
theorem d_law_one_right (W : Wf K mg) : DefOk P w K mg base (CF K) 15 "_law_one_right" 4 F_law_one_right := by
  obtain ⟨fd, F⟩ := W.d 79 rfl
  have nd := sc_law_one_right.nd
  exact defok F (fn_spf (k := 14) F sc_law_one_right (by decide) fun cdv A outer sh H hr => ⟨_, (ss_cons (ss_set 4 nd (se_anyK (K := K) rfl W.b_any (SL.sw (sl_lc (own := [("_law_k", 5)]) rfl nd (blkOk_by (own := [("_law_k", 5)]) (by kernel_rfl)) (by decide) (SI.w (si_seqK (K := K) (SL.se (sl_listKeys rfl W.b_list (se_var 3))))) (fun _ _ _ _ _ => (sg_name 5 nd)) (fun _ _ _ _ _ => sts_nil) (fun _ _ _ _ _ => (se_inF (d_eq W) (hr.mono (by decide)) (se_var 0) (se_ixD hr.units (se_var 3) (se_var 5))))))))
  (ss_cons (ss_if (st_ne (se_call (d_is_solved W) (hr.mono (by decide)) (sa_cons (se_var 0) (sa_cons (se_var 2) sa_nil))) (se_var 4)) (ss_one (ss_ret se_bl)) ss_nil)
  (ss_cons (ss_if (SWt.st (sw_and (st_gt (se_call (d_law_d W) (hr.mono (by decide)) (sa_cons (se_var 1) sa_nil)) se_int) (sw_and1 (st_ne (se_neDK (K := K) hr.units (se_call (d_families W) (hr.mono (by decide)) (sa_cons (se_var 0) (sa_cons (se_var 2) sa_nil))) (se_tup sa_nil)) (se_var 4))))) (ss_one (ss_ret se_bl)) ss_nil)
  (ss_one (ss_ret (se_eq (se_neNilK (K := K) hr.units (SE.sw (se_call (d_law_owned W) (hr.mono (by decide)) (sa_cons (se_var 0) (sa_cons (se_var 1) (sa_cons (se_var 2) sa_nil)))))) (se_inF (d_eq W) (hr.mono (by decide)) (se_var 0) (se_ixD hr.units (se_var 3) se_int))))))))⟩) (W.g 79 rfl) (F.bindsN fun _ _ _ _ _ _ us hl => match us, hl with | [_, _, _, _], _ => rfl)
end
end L3
set_option maxHeartbeats 4000000
namespace L3
open PySem L2 RZ
/-! ### x[1], y = divmod(a, b) -/
def vDivm (i : Nat) (f g : En → Option Dat) : En → Option Fw := fun ρ => (f ρ).bind fun a => (intOf a).bind fun a => (g ρ).bind fun b => (intOf b).bind fun b => (fO 0 ρ).bind fun ds =>
  if 0 < b ∧ b < 1073741824 ∧ 1 < ds.length then some (.nx ((ρ.set 0 (.ow (ds.set 1 (.int (a / b))))).set i (.fz (.int (a % b))))) else none
section
variable {C : Addr} {X : Cx} {a b : Expr} {ua ub : TE} {fa fb : En → Option Dat}
theorem vv_divm (i : Nat) {x y : Str} {p1 p2 p3 p4 p5 p6 p7 pos : Pos} {j1 kt : Nat} (hc : X.calm = true) (nd : X.N.Nodup) (hm : X.mg "divmod" = none) (ha : SE X C a ua fa) (hb : SE X C b ub fb) (h0 : i ≠ 0 := by decide)
    (hN : X.N[0]? = some x := by rfl) (hv : Vis X.env.scope x := by first | exact Or.inl rfl | exact Or.inr (Or.inl rfl) | exact Or.inr (Or.inr rfl)) (hd : (x == ("__debug__" : Str)) = false := by decide) (hcd : (x == ("__classdict__" : Str)) = false := by decide)
    (hyi : X.N[i]? = some y := by rfl) (hx : Loc X.env.scope y := by first | exact .inl rfl | exact .inr rfl) (hf : X.fn y = true ∨ X.env.scope.names.lookup y = some .local := by first | exact .inl rfl | exact .inr rfl) (hg : Gl X "divmod" := by rfl)
    (has : ∀ v, assign (.Subscript (.Name x p1) (.Constant (.int 1) j1 p2) p3) X.env v = (do
      let ov ← holding [v] (eval (.Name x p1) X.env)
      let iv ← holding [v, ov] (eval (.Constant (.int 1) j1 p2) X.env)
      standAt p3
      holding [v, ov, iv] (setItem ov iv v)
      release [v, ov, iv] []) := by intro _; rfl)
    (hs1 : (assignEach [.Subscript (.Name x p1) (.Constant (.int 1) j1 p2) p3, .Name y p4] X.env).map (·.2) = assign (.Subscript (.Name x p1) (.Constant (.int 1) j1 p2) p3) X.env :: (assignEach [.Name y p4] X.env).map (·.2) := by rfl)
    (hs2 : (assignEach [.Name y p4] X.env).map (·.2) = assign (.Name y p4) X.env :: (assignEach [] X.env).map (·.2) := by rfl)
    (hn : (assignEach [.Subscript (.Name x p1) (.Constant (.int 1) j1 p2) p3, .Name y p4] X.env).length = 2 := by rfl) (hst : (assignEach [.Subscript (.Name x p1) (.Constant (.int 1) j1 p2) p3, .Name y p4] X.env).findIdx? (·.1) = none := by rfl)
    (he1 : starEach [a, b] X.env = (false, eval a X.env) :: starEach [b] X.env := by rfl) (he2 : starEach [b] X.env = [(false, eval b X.env)] := by rfl) (hpl : (backTo p7 (starEach [b] X.env)).any (·.1) = false := by rfl)
    (hs : swapsWithSole [.Tuple [.Subscript (.Name x p1) (.Constant (.int 1) j1 p2) p3, .Name y p4] kt p5] (.Call (.Name "divmod" p6) [a, b] [] p7) pos.line X.env = pure false := by rfl)
    (hw : swappedStores [.Tuple [.Subscript (.Name x p1) (.Constant (.int 1) j1 p2) p3, .Name y p4] kt p5] (.Call (.Name "divmod" p6) [a, b] [] p7) X.env = pure none := by rfl)
    (h1 : (assignEach [.Tuple [.Subscript (.Name x p1) (.Constant (.int 1) j1 p2) p3, .Name y p4] kt p5] X.env).map (·.2) = [assign (.Tuple [.Subscript (.Name x p1) (.Constant (.int 1) j1 p2) p3, .Name y p4] kt p5) X.env] := by rfl) :
    SV X C (.Assign [.Tuple [.Subscript (.Name x p1) (.Constant (.int 1) j1 p2) p3, .Name y p4] kt p5] (.Call (.Name "divmod" p6) [a, b] [] p7) pos)
      (tAsg (tCB (fun xs H Q => ∃ i j, xs = [.int i, .int j] ∧ CDiv i j ∧ ∀ p, H p = none → Q (.ref p) (upd H p (.tup [.int (i / j), .int (i % j)]))) (tCons ua (tCons ub tNil))) (gTup X.K 2 (gCons (gSub (tVar 0) (tC (.int 1)) rSetL) (gCons (gName i) gNil)))) (vDivm i fa fb) := by
  refine ⟨ps_asg (pe_callB call_divmod hg hm (by decide +kernel) (pa_cons ha.p (pa_cons hb.p pa_nil he2) he1) (by decide) (by decide) he1 hpl) (pg_tup hc (pgs_cons (pg_sub (pe_var hN hv hd hcd) pe_int set_list has) (pgs_cons (pg_name nd hyi hx hf) pgs_nil hs2) hs1) hn hst) hs hw h1, fun Hk H σ ρ r rl e D hnx hr => ?_⟩
  obtain ⟨da, e0, e⟩ := Option.bind_eq_some_iff.mp (show (fa ρ).bind _ = some r from e)
  obtain ⟨ia, e1, e⟩ := Option.bind_eq_some_iff.mp e
  obtain ⟨db, e2, e⟩ := Option.bind_eq_some_iff.mp e
  obtain ⟨ib, e3, e⟩ := Option.bind_eq_some_iff.mp e
  obtain ⟨ds, e4, e⟩ := Option.bind_eq_some_iff.mp e
  split at e
  · rename_i hz
    cases e
    cases da <;> simp only [intOf, reduceCtorEq] at e1
    cases e1
    cases db <;> simp only [intOf, reduceCtorEq] at e3
    cases e3
    have ho := fO_some e4
    obtain ⟨m, xs, h1', h2, h3, h4⟩ := rl.ow 0 ds ho
    refine ha.o Hk H σ ρ _ rl e0 _ fun v1 Hk1 H1 n1 r1 => ?_
    refine hb.o Hk1 H1 σ ρ _ (rl.nx n1) e2 _ fun v2 Hk2 H2 n2 r2 => ?_
    have n12 := n1.trans n2
    refine ⟨ia, ib, by rw [r1.int, r2.int], ⟨hz.1, hz.2.1⟩, fun t ht => ?_⟩
    have n3 : Nx Hk2 H2 Hk2 (upd H2 t (.tup [.int (ia / ib), .int (ia % ib)])) := Nx.own n2.kh ht
    have n123 := n12.trans n3
    have hl : 1 < xs.length := by rw [h4.length]; exact hz.2.2
    refine ⟨t, _, rfl, SqT.of upd_same, rfl, _, _, rfl, .ref m, h1', m, xs, 1, 1, rfl, rfl, n123.hh _ _ h3, ?_, ?_⟩
    · unfold ixN
      rw [if_pos (by decide), if_pos (by omega)]
      rfl
    obtain ⟨rl2, ns2⟩ := (rl.nx n123).mut ho h1' (RpL.set (d := .int (ia / ib)) rp_int 1 (h4.mono n123.kk))
    refine ⟨_, _, rfl, rfl, ?_⟩
    exact hnx _ rfl _ Hk2 _ ((n123.ns.trans ns2).trans (ns_slots rl2.kh fun l => own_setF)) (rl2.setF rp_int) (List.getElem?_set_ne h0)
  · cases e
end
/-! ### a dict filled in a loop, then read only -/
def gvGo (i : Nat) (fv : En → Option Dat) (ρ : En) : List Dat → List Int → List Dat → Option (List Int × List Dat)
  | [], ks, vs => some (ks, vs)
  | d :: ds, ks, vs => (intOf d).bind fun k => (fv (ρ.set i (.fz d))).bind fun v => if ks.contains k = false ∧ ks.length < 100000 then gvGo i fv ρ ds (ks ++ [k]) (vs ++ [v]) else none
/-- a, d, c = fa, {}, fc; for k in it: d[k] = fv -/
def vGv (ia ig ic ik : Nat) (fa fc : En → Option Dat) (it : En → Option (List Dat)) (fv : En → Option Dat) : En → Option Fw := fun ρ => if ig < ρ.length ∧ ik < ρ.length then (fa ρ).bind fun a => (fc ρ).bind fun c =>
  (it (((ρ.set ia (.fz a)).set ig .no).set ic (.fz c))).bind fun ds => (gvGo ik fv ((((ρ.set ia (.fz a)).set ig .no).set ic (.fz c)).set ik .no) ds [] []).bind fun p =>
    some (.nx (((((ρ.set ia (.fz a)).set ig .no).set ic (.fz c)).set ik .no).set ig (.fz (.dic p.1 p.2)))) else none
section
variable {C : Addr} {Hk H Hk' H' : Hp} {σ : L2.St} {ρ : En}
theorem Rel.no {i : Nat} {v : Option V} (r : Rel C Hk H σ ρ) : Rel C Hk H (σ.set i v) (ρ.set i .no) ∧ ∀ l, Own (σ.set i v) (ρ.set i .no) l → Own σ ρ l := by
  have ne : ∀ {j : Nat} {x : Sl}, x ≠ .no → (ρ.set i .no)[j]? = some x → i ≠ j ∧ ρ[j]? = some x := fun {j x} hx h => by
    by_cases z : i = j
    · subst z
      have hl : i < ρ.length := by
        have := (List.getElem?_eq_some_iff.mp h).1
        simpa using this
      rw [List.getElem?_set_self hl] at h
      cases h; exact absurd rfl hx
    · rw [List.getElem?_set_ne z] at h
      exact ⟨z, h⟩
  refine ⟨⟨r.kh, by simp [r.len], fun j d h => ?_, fun j ds h => ?_, fun j k l a b h h' h1 h2 => ?_⟩, fun l ⟨j, ds, h, h1⟩ => ?_⟩
  · obtain ⟨z, h⟩ := ne (x := .fz d) (by intro z; cases z) h
    rw [List.getElem?_set_ne z]
    exact r.fz j d h
  · obtain ⟨z, h⟩ := ne (x := .ow ds) (by intro z; cases z) h
    rw [List.getElem?_set_ne z]
    exact r.ow j ds h
  · obtain ⟨z, h⟩ := ne (x := .ow a) (by intro z; cases z) h
    obtain ⟨z', h'⟩ := ne (x := .ow b) (by intro z; cases z) h'
    rw [List.getElem?_set_ne z] at h1
    rw [List.getElem?_set_ne z'] at h2
    exact r.ds j k l a b h h' h1 h2
  · obtain ⟨z, h⟩ := ne (x := .ow ds) (by intro z; cases z) h
    rw [List.getElem?_set_ne z] at h1
    exact ⟨j, ds, h, h1⟩
end
theorem putK_new {kvs : List (Key × V)} {ks : List Int} {k : Int} {v : V} (h : kvs.map (·.1) = ks.map Sum.inl) (n : ks.contains k = false) : putK kvs (Sum.inl k) v = kvs ++ [(Sum.inl k, v)] := by
  unfold putK
  rw [if_neg]
  intro z
  obtain ⟨kv, hm, e⟩ := List.any_eq_true.mp z
  have e := of_decide_eq_true e
  have : (Sum.inl k : Key) ∈ ks.map Sum.inl := by rw [← h, ← e]; exact List.mem_map.mpr ⟨kv, hm, rfl⟩
  obtain ⟨k', hk, e'⟩ := List.mem_map.mp this
  cases e'
  have : ks.contains k = true := List.contains_iff_mem.mpr hk
  rw [n] at this; cases this
section
variable {C : Addr} {X : Cx} {iter : Expr} {wi : TI} {ua uv : TE} {fa fc fv : En → Option Dat} {la : En → Option (List Dat)}
theorem okv_gv {ia ig ic ik : Nat} {uc : TE} (oa : OkE C ua fa) (oc : OkE C uc fc) (oi : OkI C wi la) (ov : OkE C uv fv) (h0 : ia ≠ 0 ∧ ig ≠ 0 ∧ ic ≠ 0 ∧ ik ≠ 0) (hd : ia ≠ ig ∧ ia ≠ ic ∧ ia ≠ ik ∧ ig ≠ ic ∧ ig ≠ ik ∧ ic ≠ ik) :
    OkSw C (tSeq (tPar3 ia ig ic (tCons ua (tCons tDNewK (tCons uc tNil)))) (tFor wi (gName ik) (sDPut (tVar ig) (tVar ik) uv))) (vGv ia ig ic ik fa fc la fv) := fun Hk H σ ρ r rl e E hn hr => by
  unfold vGv at e
  split at e
  case isFalse => cases e
  rename_i hlen
  obtain ⟨lg, lk⟩ := hlen
  obtain ⟨a, e1, e⟩ := Option.bind_eq_some_iff.mp e
  obtain ⟨c, e2, e⟩ := Option.bind_eq_some_iff.mp e
  obtain ⟨ds, e3, e⟩ := Option.bind_eq_some_iff.mp e
  obtain ⟨⟨ks, vs⟩, e4, e⟩ := Option.bind_eq_some_iff.mp e
  cases e
  refine oa Hk H σ ρ a rl e1 _ fun va Hk1 H1 n1 ra => ?_
  intro d hd0
  have nd : Nx Hk1 H1 Hk1 (upd H1 d (.dK [])) := Nx.own n1.kh hd0
  have n1d := n1.trans nd
  refine oc Hk1 _ σ ρ c (rl.nx n1d) e2 _ fun vc Hk2 H2 n2 rc => ?_
  have n12 := n1d.trans n2
  have kd1 : Hk1 d = none := n1.kh.free hd0
  have kd2 : Hk2 d = none := n2.sp d kd1 (by rw [upd_same]; intro z; cases z)
  have hd2 : H2 d = some (.dK []) := n2.hh _ _ upd_same
  have hd00 : H d = none := n1.hh.free hd0
  have dow : ∀ l, Own σ ρ l → l ≠ d := fun l ⟨i, es, hi, hl⟩ z => by
    obtain ⟨m, ys, k1, _, k3, _⟩ := rl.ow i es hi
    rw [hl] at k1; cases k1
    subst z
    rw [hd00] at k3; cases k3
  refine ⟨va, .ref d, vc, rfl, ?_⟩
  show (tFor wi (gName ik) (sDPut (tVar ig) (tVar ik) uv)) E (((σ.set ia (some va)).set ig (some (.ref d))).set ic (some vc)) H2
  -- the slots
  generalize hσ : ((σ.set ia (some va)).set ig (some (V.ref d))).set ic (some vc) = σ1
  have r2 : Rel C Hk2 H2 σ ρ := rl.nx n12
  have r3 := (r2.setF (i := ia) (ra.mono (nd.kk.trans n2.kk)))
  have r4 := (r3.no (i := ig) (v := some (V.ref d)))
  have r5 : Rel C Hk2 H2 σ1 (((ρ.set ia (.fz a)).set ig .no).set ic (.fz c)) := by rw [← hσ]; exact r4.1.setF (i := ic) rc
  have o5 : ∀ l, Own σ1 (((ρ.set ia (.fz a)).set ig .no).set ic (.fz c)) l → Own σ ρ l := fun l o => by
    rw [← hσ] at o
    exact own_setF (r4.2 l (own_setF o))
  have s0 : σ1[0]? = σ[0]? := by
    rw [← hσ, List.getElem?_set_ne h0.2.2.1, List.getElem?_set_ne h0.2.1, List.getElem?_set_ne h0.1]
  have lσ : σ.length = ρ.length := rl.len
  have sg : σ1[ig]? = some (some (.ref d)) := by
    rw [← hσ, List.getElem?_set_ne (Ne.symm hd.2.2.2.1), List.getElem?_set_self (by simp; omega)]
  have l1 : σ1.length = ρ.length := by rw [← hσ]; simp [lσ]
  generalize hρ : ((ρ.set ia (.fz a)).set ig .no).set ic (.fz c) = ρ1 at r5 o5 e3 e4 hn ⊢
  have lρ : ρ1.length = ρ.length := by rw [← hρ]; simp
  have ns5 : Ns Hk H σ ρ Hk2 H2 σ1 ρ1 := n12.ns.trans (ns_slots n12.kh o5)
  refine oi Hk2 H2 σ1 ρ1 ds r5 e3 _ fun J Hk3 H3 n3 W => ?_
  -- the loop's invariant
  let Pv : Nat → L2.St → Hp → Prop := fun j σ' H' => ∃ (Hk' : Hp) (kvs : List (Key × V)) (ks' : List Int) (vs' : List Dat), Le Hk3 Hk' ∧ Ns Hk H σ ρ Hk' H' σ' (ρ1.set ik .no) ∧ Rel C Hk' H' σ' (ρ1.set ik .no) ∧ σ'[0]? = σ[0]? ∧ σ'[ig]? = some (some (.ref d)) ∧ σ'.length = ρ.length ∧
    Hk' d = none ∧ H' d = some (.dK kvs) ∧ kvs.map (·.1) = ks'.map Sum.inl ∧ RpL C Hk' vs' (kvs.map (·.2)) ∧ gvGo ik fv (ρ1.set ik .no) (ds.drop j) ks' vs' = some (ks, vs) ∧ (∀ l, Own σ' (ρ1.set ik .no) l → l ≠ d)
  have kd3 : Hk3 d = none := n3.sp d kd2 (by rw [hd2]; intro z; cases z)
  refine ⟨fun j m σ' H' => m = ds.length - j ∧ j ≤ ds.length ∧ Pv j σ' H', ⟨ds.length, by simp, Nat.zero_le _, Hk3, [], [], [], Le.refl _, ?_, ?_, s0, sg, l1, kd3, n3.hh _ _ hd2, rfl, rpl_nil, e4, ?_⟩, ?_⟩
  · have q := (r5.nx n3).no (i := ik) (v := σ1[ik]?.join)
    have es : σ1.set ik (σ1[ik]?.join) = σ1 := by
      apply List.ext_getElem?
      intro i
      by_cases z : ik = i
      · subst z
        have hlt : ik < σ1.length := by omega
        rw [List.getElem?_set_self hlt, List.getElem?_eq_getElem hlt]; rfl
      · rw [List.getElem?_set_ne z]
    rw [es] at q
    exact (ns5.trans n3.ns).trans (ns_slots n3.kh q.2)
  · have q := (r5.nx n3).no (i := ik) (v := σ1[ik]?.join)
    have es : σ1.set ik (σ1[ik]?.join) = σ1 := by
      apply List.ext_getElem?
      intro i
      by_cases z : ik = i
      · subst z
        have hlt : ik < σ1.length := by omega
        rw [List.getElem?_set_self hlt, List.getElem?_eq_getElem hlt]; rfl
      · rw [List.getElem?_set_ne z]
    rw [es] at q
    exact q.1
  · intro l o
    have q := (r5.nx n3).no (i := ik) (v := σ1[ik]?.join)
    have es : σ1.set ik (σ1[ik]?.join) = σ1 := by
      apply List.ext_getElem?
      intro i
      by_cases z : ik = i
      · subst z
        have hlt : ik < σ1.length := by omega
        rw [List.getElem?_set_self hlt, List.getElem?_eq_getElem hlt]; rfl
      · rw [List.getElem?_set_ne z]
    rw [es] at q
    exact dow l (o5 l (q.2 l o))
  rintro j m σ' H' ⟨rfl, hj, Hk', kvs, ks', vs', k3, ns', rl', z0, zg, zl, kd', hd', hks, hvs, hgo, od⟩
  by_cases hlt : j < ds.length
  · refine .inr ⟨W.go j _ hlt (k3.trans rl'.kh), Pv (j + 1), fun σ2 H2 p' => ⟨ds.length - (j + 1), by omega, rfl, hlt, p'⟩, fun x H4 y => ?_⟩
    obtain ⟨dk, Hk4, e5, n4, rd⟩ := W.yld j _ x H4 hlt (k3.trans rl'.kh) y Hk' k3 rl'.kh
    have edrop : ds.drop j = dk :: ds.drop (j + 1) := by
      rw [List.drop_eq_getElem_cons hlt]
      have : ds[j]? = some ds[j] := List.getElem?_eq_getElem hlt
      rw [this] at e5; cases e5; rfl
    rw [edrop] at hgo
    obtain ⟨k, e6, hgo⟩ := Option.bind_eq_some_iff.mp (show (intOf dk).bind _ = some (ks, vs) from hgo)
    obtain ⟨dv, e7, hgo2⟩ := Option.bind_eq_some_iff.mp hgo
    clear hgo
    split at hgo2
    · rename_i hz
      cases dk <;> simp only [intOf, reduceCtorEq] at e6
      cases e6
      show sDPut (tVar ig) (tVar ik) uv _ (σ'.set ik (some x)) H4
      have r6 : Rel C Hk4 H4 (σ'.set ik (some x)) ((ρ1.set ik .no).set ik (.fz (.int k))) := (rl'.nx n4).setF rd
      refine ov Hk4 H4 _ _ dv r6 e7 _ fun v Hk5 H5 n5 rv => ?_
      have n45 := n4.trans n5
      have zg2 : (σ'.set ik (some x))[ig]? = some (some (.ref d)) := by rw [List.getElem?_set_ne (Ne.symm hd.2.2.2.2.1)]; exact zg
      have zk2 : (σ'.set ik (some x))[ik]? = some (some x) := List.getElem?_set_self (by omega)
      have hd5 : H5 d = some (.dK kvs) := n45.hh _ _ hd'
      have kd5 : Hk5 d = none := n45.sp d kd' (by rw [hd']; intro z; cases z)
      have hkl : kvs.length = ks'.length := by have := congrArg List.length hks; rwa [List.length_map, List.length_map] at this
      refine ⟨.ref d, zg2, x, zk2, d, _, rfl, (by rw [rd.int]; exact DPut.k (k := Sum.inl k) hd5 (by rw [hkl]; exact sz_lt hz.2)), ?_⟩
      rw [putK_new hks hz.1]
      have q := (rl'.nx n45).no (i := ik) (v := some x)
      rw [List.set_set] at q
      -- the heap with the dict grown
      have kh7 : Le Hk5 (upd H5 d (.dK (kvs ++ [(Sum.inl k, v)]))) := fun l o h => by
        have z : l ≠ d := fun z => by subst z; rw [kd5] at h; cases h
        rw [upd_ne z]; exact n5.kh _ _ h
      have r7 : Rel C Hk5 (upd H5 d (.dK (kvs ++ [(Sum.inl k, v)]))) (σ'.set ik (some x)) (ρ1.set ik .no) :=
        ⟨kh7, q.1.len, q.1.fz, fun i es hi => by
          obtain ⟨l, ys, h1, h2, h3, h4⟩ := q.1.ow i es hi
          have z : l ≠ d := od l (q.2 l ⟨i, es, hi, h1⟩)
          exact ⟨l, ys, h1, h2, by rw [upd_ne z]; exact h3, h4⟩, q.1.ds⟩
      refine ⟨Hk5, kvs ++ [(Sum.inl k, v)], ks' ++ [k], vs' ++ [dv], k3.trans n45.kk, ?_, r7, by rw [List.getElem?_set_ne h0.2.2.2]; exact z0, zg2, by simp [zl], kd5, upd_same, by rw [List.map_append, List.map_append, hks]; rfl,
        by rw [List.map_append]; exact (hvs.mono n45.kk).append (rpl_cons rv rpl_nil), hgo2, fun l o => od l (q.2 l o)⟩
      have ns6 : Ns Hk H σ ρ Hk5 H5 (σ'.set ik (some x)) (ρ1.set ik .no) := (ns'.trans n45.ns).trans (ns_slots n45.kh q.2)
      exact ⟨ns6.kk, kh7, fun l o h n => by
        have z : l ≠ d := fun z => by subst z; rw [hd00] at h; cases h
        rw [upd_ne z]; exact ns6.fr l o h n, ns6.sp, ns6.own⟩
    · cases hgo2
  · have z : j = ds.length := by omega
    subst z
    rw [List.drop_length] at hgo
    cases hgo
    -- the dict becomes known
    have kz : Le Hk' (upd Hk' d (.dK kvs)) := Le.new kd'
    have rz := (rl'.carry (Hk' := upd Hk' d (.dK kvs)) (H' := H') kz (fun l o h => by
      by_cases z : l = d
      · subst z; rw [upd_same] at h; cases h; exact hd'
      · rw [upd_ne z] at h; exact rl'.kh _ _ h) fun l o => ⟨rfl, by rw [upd_ne (od l o)]; exact (rl'.own_some o).1⟩)
    have rf := rz.setF (i := ig) (v := .ref d) (d := .dic ks vs) (rp_dic upd_same hks (hvs.mono kz))
    have eσ : σ'.set ig (some (.ref d)) = σ' := by
      apply List.ext_getElem?
      intro i
      by_cases z : ig = i
      · subst z
        rw [List.getElem?_set_self (by omega)]; exact zg.symm
      · rw [List.getElem?_set_ne z]
    rw [eσ] at rf
    refine .inl ⟨W.stop _ (k3.trans rl'.kh), hn _ rfl σ' _ H' ?_ rf z0⟩
    refine ⟨ns'.kk.trans kz, rz.kh, ns'.fr, fun l h h' n => ?_, fun l o => ns'.own l (by
      have := own_setF (σ := σ') (v := .ref d) (i := ig) (ρ := ρ1.set ik .no) (d := .dic ks vs) (l := l) (by rw [eσ]; exact o)
      exact this)⟩
    have z : l ≠ d := fun z => by subst z; exact h' hd00
    rw [upd_ne z]; exact ns'.sp l h h' n
end
/-- two statements taken as one -/
theorem vv_two {X : Cx} {C : Addr} {st1 st2 : Stmt} {rest : List Stmt} {t1 t2 u : TS} {s s' : En → Option Fw} (p1 : PS X st1 t1) (p2 : PS X st2 t2) (o : OkSw C (tSeq t1 t2) s) (h : SVs X C rest u s') : SVs X C (st1 :: st2 :: rest) (tSeq t1 (tSeq t2 u)) (vSeq s s') :=
  ⟨pss_cons p1 (pss_cons p2 h.p), (show OkSw C (tSeq t1 (tSeq t2 u)) (vSeq s s') from (okv_seq o h.o : OkSw C (tSeq (tSeq t1 t2) u) (vSeq s s')))⟩
theorem vv_gv {X : Cx} {C : Addr} {a c v iter : Expr} {rest : List Stmt} {x y z k : Str} {px py pz pt pt2 pd pos pk p1 p2 p3 pos2 pos3 : Pos} {kt k2 : Nat} {ua uc uv : TE} {wi : TI} {u : TS} {fa fc fv : En → Option Dat} {la : En → Option (List Dat)} {s' : En → Option Fw} (ia ig ic ik : Nat)
    (hpo : PassesOwn (model X.prog X.w) X.A X.env X.xe) (hc : X.calm = true) (hN : X.N.Nodup) (hu : X.A.units + 1 < cLine) (ha : SE X C a ua fa) (hcc : SE X C c uc fc) (hi : SI X C (.Name k pk) iter wi la) (hv : SE X C v uv fv) (h0 : ia ≠ 0 ∧ ig ≠ 0 ∧ ic ≠ 0 ∧ ik ≠ 0) (hd : ia ≠ ig ∧ ia ≠ ic ∧ ia ≠ ik ∧ ig ≠ ic ∧ ig ≠ ik ∧ ic ≠ ik) (h : SVs X C rest u s')
    (i1 : X.N[ia]? = some x := by rfl) (i2 : X.N[ig]? = some y := by rfl) (i3 : X.N[ic]? = some z := by rfl) (i4 : X.N[ik]? = some k := by rfl) (hx : X.env.scope.names.lookup x = some .local := by rfl) (hy : X.env.scope.names.lookup y = some .local := by rfl) (hz : X.env.scope.names.lookup z = some .local := by rfl) (hk : X.env.scope.names.lookup k = some .local := by rfl)
    (hvy : Vis X.env.scope y := by first | exact Or.inl rfl | exact Or.inr (Or.inl rfl) | exact Or.inr (Or.inr rfl)) (hvk : Vis X.env.scope k := by first | exact Or.inl rfl | exact Or.inr (Or.inl rfl) | exact Or.inr (Or.inr rfl))
    (d1 : (y == ("__debug__" : Str)) = false := by decide) (d2 : (y == ("__classdict__" : Str)) = false := by decide) (d3 : (k == ("__debug__" : Str)) = false := by decide) (d4 : (k == ("__classdict__" : Str)) = false := by decide)
    (e1 : starEach [a, .Dict [] [] pd, c] X.env = (false, eval a X.env) :: starEach [.Dict [] [] pd, c] X.env := by rfl) (e2 : starEach [.Dict [] [] pd, c] X.env = (false, eval (.Dict [] [] pd) X.env) :: starEach [c] X.env := by rfl) (e3 : starEach [c] X.env = [(false, eval c X.env)] := by rfl)
    (hw : swappedStores [.Tuple [.Name x px, .Name y py, .Name z pz] kt pt] (.Tuple [a, .Dict [] [] pd, c] k2 pt2) X.env = pure (some [x, y, z]) := by rfl)
    (hs : swapsWithSole [.Tuple [.Name x px, .Name y py, .Name z pz] kt pt] (.Tuple [a, .Dict [] [] pd, c] k2 pt2) pos.line X.env = pure false := by rfl)
    (hs2 : swapsWith v (some (.Subscript (.Name y p1) (.Name k p2) p3)) pos2.line X.env = pure false := by rfl) (hfs : ∀ x, foldedSetIterable iter X.env x = pure x := by intro _; rfl) :
    SVs X C (.Assign [.Tuple [.Name x px, .Name y py, .Name z pz] kt pt] (.Tuple [a, .Dict [] [] pd, c] k2 pt2) pos :: .For (.Name k pk) iter [.Assign [.Subscript (.Name y p1) (.Name k p2) p3] v pos2] [] pos3 :: rest)
      (tSeq (tPar3 ia ig ic (tCons ua (tCons tDNewK (tCons uc tNil)))) (tSeq (tFor wi (gName ik) (sDPut (tVar ig) (tVar ik) uv)) u)) (vSeq (vGv ia ig ic ik fa fc la fv) s') :=
  vv_two (ps_par3 hc hN i1 i2 i3 hd.1 hd.2.1 hd.2.2.2.1 hx hy hz (pa_cons ha.p (pa_cons pe_dnewK (pa_cons hcc.p pa_nil e3) e2) e1) hw hs)
    (ps_for hpo hc hi.p (pg_name hN i4 (.inl hk) (.inr hk)) (pss_one (ps_dput hu (pe_var i2 hvy d1 d2) (pe_var i4 hvk d3 d4) hv.p hs2)) hfs)
    (okv_gv ha.o hcc.o hi.o hv.o h0 hd) h
end L3
set_option maxHeartbeats 4000000
namespace L3
open PySem L2 RZ
section
variable {P : Program} {w : World} {K : PySem.W.Frag} {mg : Str → Option Value} {base : Heap}
def s_law_dip : En → Option Fw := vSeq (vIf (fB (f2 dGt (fIxL (fO 0) (fK (.int 1))) (fK (.int 0)))) (vSeq (vDivm 2 (fIxL (fO 0) (fK (.int 1))) (fV 1))
  (vRet (xPure (fV 2)))) (vNext))
  (vSeq (vSetI 0 (fK (.int 2)) (f2 dAdd (fIxL (fO 0) (fK (.int 2))) (fK (.int 1))))
  (vSeq (vSetI 0 (fK (.int 0)) (f2 dMod (fC dInt (fCons (f2 dAdd (f2 dAdd (f2 dMul (fIxL (fO 0) (fK (.int 0))) (fK (.int 39373))) (f2 dMul (f2 dMul (fK (.int 7)) (fIxL (fO 0) (fK (.int 2)))) (fIxL (fO 0) (fK (.int 2))))) (fK (.int 101))) fNil)) (fK (.int 2147483629))))
  (vRet (xPure (f2 dMod (fC dInt (fCons (f2 dDiv (fIxL (fO 0) (fK (.int 0))) (fK (.int 64))) fNil)) (fV 1))))))
def F_law_dip : List Dat → List Dat → Option (Dat × List Dat) := runW s_law_dip 1
theorem sc_law_dip : FnScope ["_law_well_here", "_law_many", "_law_digit"] ["_law_well_here", "_law_many"] (defScope (top 108)) := ⟨rfl, rfl, rfl, by decide +kernel, rfl, by decide +kernel, by decide +kernel⟩
theorem d_law_dip (W : Wf K mg) : DefW P w K mg base (CF K) 1 "_law_dip" 1 F_law_dip := by
  obtain ⟨fd, F⟩ := W.d 69 rfl
  have nd := sc_law_dip.nd
  exact defw F (fn_spw (k := 0) (n := 1) F sc_law_dip rfl (by decide) fun cdv A outer sh H hr => ⟨_, (vv_cons (vv_if (st_gt (se_ixK (K := K) (SW.sq (sw_ow 0)) se_int) se_int) (vv_cons (vv_divm 2 rfl nd W.b_divmod (se_ixK (K := K) (SW.sq (sw_ow 0)) se_int) (se_var 1))
  (vv_one (vv_ret (sx_pure (se_var 2))))) vv_nil)
  (vv_cons (vv_setI 0 (se_add (se_ixK (K := K) (SW.sq (sw_ow 0)) se_int) se_int) se_int)
  (vv_cons (vv_setI 0 (se_mod (se_intof W.b_int (se_add (se_add (se_mul (se_ixK (K := K) (SW.sq (sw_ow 0)) se_int) se_int) (se_mul (se_mul se_int (se_ixK (K := K) (SW.sq (sw_ow 0)) se_int)) (se_ixK (K := K) (SW.sq (sw_ow 0)) se_int))) se_int)) se_int) se_int)
  (vv_one (vv_ret (sx_pure (se_mod (se_intof W.b_int (se_div (se_ixK (K := K) (SW.sq (sw_ow 0)) se_int) se_int)) (se_var 1))))))))⟩) (W.g 69 rfl) (F.bindsN fun _ _ _ _ _ _ us hl => match us, hl with | [_, _], _ => rfl)
def s_law_drawn_whole : En → Option Fw := vSeq (vFor (fRng1 (fCons (fK (.int 40)) (fNil))) 1 (vSeq (vSet 2 (xOp dSub (xCall1 0 F_law_dip (xPure (fK (.int 241)))) (xPure (fK (.int 120)))))
  (vIf (fB (fC F_law_is_whole (fCons (fV 2) (fNil)))) (vRet (xPure (fV 2))) (vNext))))
  (vRet (xPure (f1 dNeg (fK (.int 20)))))
def F_law_drawn_whole : List Dat → List Dat → Option (Dat × List Dat) := runW s_law_drawn_whole 2
theorem sc_law_drawn_whole : FnScope ["_law_well_here", "_law_again", "_law_whole"] ["_law_well_here"] (defScope (top 119)) := ⟨rfl, rfl, rfl, by decide +kernel, rfl, by decide +kernel, by decide +kernel⟩
theorem d_law_drawn_whole (W : Wf K mg) : DefW P w K mg base (CF K) 3 "_law_drawn_whole" 0 F_law_drawn_whole := by
  obtain ⟨fd, F⟩ := W.d 80 rfl
  have nd := sc_law_drawn_whole.nd
  exact defw F (fn_spw (k := 2) (n := 0) F sc_law_drawn_whole rfl (by decide) fun cdv A outer sh H hr => ⟨_, (vv_cons (vv_for 1 PassesOwn.never rfl nd (si_rng1 W.b_range (sa_cons se_int sa_nil)) (vv_cons (vv_set 2 nd (sx_sub (sx_call1 0 (d_law_dip W) (hr.mono (by decide)) (sx_pure se_int)) (sx_pure se_int)))
  (vv_one (vv_if (st_val (se_call (d_law_is_whole W) (hr.mono (by decide)) (sa_cons (se_var 2) sa_nil))) (vv_one (vv_ret (sx_pure (se_var 2)))) vv_nil))))
  (vv_one (vv_ret (sx_pure (se_neg se_int)))))⟩) (W.g 80 rfl) (F.bindsN fun _ _ _ _ _ _ us hl => match us, hl with | [_], _ => rfl)
def s_law_change : En → Option Fw := vSeq (vSet 2 (xPure (fTup (fCons (fTup (fCons (fK (.int 1)) (fCons (fK (.int 0)) (fNil)))) (fCons (fTup (fCons (fK (.int 0)) (fCons (fK (.int 1)) (fNil)))) (fNil))))))
  (vSeq (vFor (fRng1 (fCons (fV 1) (fNil))) 3 (vSeq (vSet 4 (xOp dSub (xCall1 0 F_law_dip (xPure (fK (.int 5)))) (xPure (fK (.int 2)))))
  (vSeq (vSet 2 (xPure (fTup (fCons (fTup (fCons (f2 dAdd (fIxL (fSq (fIxL (fSq (fV 2)) (fK (.int 0)))) (fK (.int 0))) (f2 dMul (fV 4) (fIxL (fSq (fIxL (fSq (fV 2)) (fK (.int 1)))) (fK (.int 0))))) (fCons (f2 dAdd (fIxL (fSq (fIxL (fSq (fV 2)) (fK (.int 0)))) (fK (.int 1))) (f2 dMul (fV 4) (fIxL (fSq (fIxL (fSq (fV 2)) (fK (.int 1)))) (fK (.int 1))))) (fNil)))) (fCons (fIxL (fSq (fV 2)) (fK (.int 1))) (fNil))))))
  (vSet 2 (xPure (fTup (fCons (fTup (fCons (f1 dNeg (fIxL (fSq (fIxL (fSq (fV 2)) (fK (.int 1)))) (fK (.int 0)))) (fCons (f1 dNeg (fIxL (fSq (fIxL (fSq (fV 2)) (fK (.int 1)))) (fK (.int 1)))) (fNil)))) (fCons (fIxL (fSq (fV 2)) (fK (.int 0))) (fNil)))))))))
  (vRet (xPure (fV 2))))
def F_law_change : List Dat → List Dat → Option (Dat × List Dat) := runW s_law_change 3
theorem sc_law_change : FnScope ["_law_well_here", "_law_steps_many", "_law_rows", "_law_lap", "_law_k"] ["_law_well_here", "_law_steps_many"] (defScope (top 113)) := ⟨rfl, rfl, rfl, by decide +kernel, rfl, by decide +kernel, by decide +kernel⟩
theorem d_law_change (W : Wf K mg) : DefW P w K mg base (CF K) 2 "_law_change" 1 F_law_change := by
  obtain ⟨fd, F⟩ := W.d 74 rfl
  have nd := sc_law_change.nd
  exact defw F (fn_spw (k := 1) (n := 1) F sc_law_change rfl (by decide) fun cdv A outer sh H hr => ⟨_, (vv_cons (vv_set 2 nd (sx_pure (se_tup (sa_cons (se_tup (sa_cons se_int (sa_cons se_int sa_nil))) (sa_cons (se_tup (sa_cons se_int (sa_cons se_int sa_nil))) sa_nil)))))
  (vv_cons (vv_for 3 PassesOwn.never rfl nd (si_rng1 W.b_range (sa_cons (se_var 1) sa_nil)) (vv_cons (vv_set 4 nd (sx_sub (sx_call1 0 (d_law_dip W) (hr.mono (by decide)) (sx_pure se_int)) (sx_pure se_int)))
  (vv_cons (vv_set 2 nd (sx_pure (se_tup (sa_cons (se_tup (sa_cons (se_add (se_ixK (K := K) (SE.sq (se_ixK (K := K) (SE.sq (se_var 2)) se_int)) se_int) (se_mul (se_var 4) (se_ixK (K := K) (SE.sq (se_ixK (K := K) (SE.sq (se_var 2)) se_int)) se_int))) (sa_cons (se_add (se_ixK (K := K) (SE.sq (se_ixK (K := K) (SE.sq (se_var 2)) se_int)) se_int) (se_mul (se_var 4) (se_ixK (K := K) (SE.sq (se_ixK (K := K) (SE.sq (se_var 2)) se_int)) se_int))) sa_nil))) (sa_cons (se_ixK (K := K) (SE.sq (se_var 2)) se_int) sa_nil)))))
  (vv_one (vv_set 2 nd (sx_pure (se_tup (sa_cons (se_tup (sa_cons (se_neg (se_ixK (K := K) (SE.sq (se_ixK (K := K) (SE.sq (se_var 2)) se_int)) se_int)) (sa_cons (se_neg (se_ixK (K := K) (SE.sq (se_ixK (K := K) (SE.sq (se_var 2)) se_int)) se_int)) sa_nil))) (sa_cons (se_ixK (K := K) (SE.sq (se_var 2)) se_int) sa_nil)))))))))
  (vv_one (vv_ret (sx_pure (se_var 2))))))⟩) (W.g 74 rfl) (F.bindsN fun _ _ _ _ _ _ us hl => match us, hl with | [_, _], _ => rfl)
end
end L3
set_option maxHeartbeats 4000000
namespace L3
open PySem L2 RZ
section
variable {P : Program} {w : World} {K : PySem.W.Frag} {mg : Str → Option Value} {base : Heap}
def s_law_right : En → Option Fw := vSeq (vSet 1 (xCall0 0 F_law_drawn_whole))
  (vSeq (vSet 2 (xOp dMul (xOp dAdd (xPure (fK (.int 1))) (xCall1 0 F_law_dip (xPure (fK (.int 24))))) (xOp dSub (xPure (fK (.int 1))) (xOp dMul (xPure (fK (.int 2))) (xCall1 0 F_law_dip (xPure (fK (.int 2))))))))
  (vSeq (vGv 3 4 5 6 (fC F_classes (fCons (fV 1) (fNil))) (fK (.int 0)) (fSq (fC F_law_squares (fCons (fV 2) (fNil)))) (fC F_classes_giving (fCons (fV 1) (fCons (f2 dDiv (fV 2) (f2 dMul (fV 6) (fV 6))) (fNil)))))
  (vSeq (vFor (fSq (fV 3)) 7 (vSeq (vSet 8 (xPure (fProp P_coefficients (fV 7))))
  (vSeq (vIf (fNot (fB (fC F_law_one_right (fCons (fV 7) (fCons (fV 8) (fCons (fV 2) (fCons (fV 4) (fNil)))))))) (vNever) (vNext))
  (vSet 5 (xPure (f2 dAdd (fV 5) (fC dLen (fSq (fC F_law_owned (fCons (fV 7) (fCons (fV 8) (fCons (fV 2) (fNil)))))))))))))
  (vSeq (vSet 9 (xPure (fC F_law_rests (fCons (fV 1) (fCons (fV 2) (fNil))))))
  (vSeq (vIf (fB (f2 dLt (fV 1) (fK (.int 0)))) (vSet 9 (xPure (fIf (fB (f2 dGt (fV 2) (fK (.int 0)))) (f2 dMul (fV 9) (f3 dGetD (fDisp2 (f1 dNeg (fK (.int 4))) (fK (.int 4)) (f1 dNeg (fK (.int 3))) (fK (.int 6))) (fV 1) (fK (.int 2)))) (fK (.int 0))))) (vNext))
  (vSeq (vIf (fB (f2 dNe (fV 5) (fV 9))) (vNever) (vNext))
  (vSeq (vSet 7 (xOp dIxT (xPure (fV 3)) (xCall1 0 F_law_dip (xPure (fC dLen (fSq (fV 3)))))))
  (vSeq (vSet 10 (xCall1 0 F_law_change (xOp dAdd (xPure (fK (.int 1))) (xCall1 0 F_law_dip (xPure (fK (.int 3)))))))
  (vSeq (vIf (fB (f2 dNe (fC F_is_solved (fCons (fMeth M_changed (fV 7) (fV 10)) (fCons (fV 2) (fNil)))) (fC F_is_solved (fCons (fV 7) (fCons (fV 2) (fNil)))))) (vNever) (vNext))
  (vRet (xPure (fOrV (f2 dLt (fV 1) (fK (.int 0))) (f2 dEqF (fMeth M_changed (fV 7) (fC F_turn (fCons (fV 7) (fNil)))) (fV 7))))))))))))))
def F_law_right : List Dat → List Dat → Option (Dat × List Dat) := runW s_law_right 10
theorem sc_law_right : FnScope ["_law_well_here", "_law_whole", "_law_number_here", "_law_every", "_law_giving", "_law_tally", "_law_k", "_law_mine", "_law_own", "_law_due", "_law_change_here"] ["_law_well_here"] (defScope (top 120)) := ⟨rfl, rfl, rfl, by decide +kernel, rfl, by decide +kernel, by decide +kernel⟩
theorem d_law_right (W : Wf K mg) : DefW P w K mg base (CF K) 16 "_law_right" 0 F_law_right := by
  obtain ⟨fd, F⟩ := W.d 81 rfl
  have nd := sc_law_right.nd
  exact defw F (fn_spw (k := 15) (n := 0) F sc_law_right rfl (by decide) fun cdv A outer sh H hr => ⟨_, (vv_cons (vv_set 1 nd (sx_call0 0 (d_law_drawn_whole W) (hr.mono (by decide))))
  (vv_cons (vv_set 2 nd (sx_mul (sx_add (sx_pure se_int) (sx_call1 0 (d_law_dip W) (hr.mono (by decide)) (sx_pure se_int))) (sx_sub (sx_pure se_int) (sx_mul (sx_pure se_int) (sx_call1 0 (d_law_dip W) (hr.mono (by decide)) (sx_pure se_int))))))
  (vv_gv 3 4 5 6 PassesOwn.never rfl nd (units1 hr) (se_call (d_classes W) (hr.mono (by decide)) (sa_cons (se_var 1) sa_nil)) se_int (si_seqK (K := K) (se_call (d_law_squares W) (hr.mono (by decide)) (sa_cons (se_var 2) sa_nil))) (se_call (d_classes_giving W) (hr.mono (by decide)) (sa_cons (se_var 1) (sa_cons (se_div (se_var 2) (se_mul (se_var 6) (se_var 6))) sa_nil))) (by decide) (by decide) (vv_cons (vv_for 7 PassesOwn.never rfl nd (si_seqK (K := K) (se_var 3)) (vv_cons (vv_set 8 nd (sx_pure (se_prop (p_coefficients W) (hr.mono (by decide)) (se_var 7))))
  (vv_cons (vv_if (st_not (st_val (se_call (d_law_one_right W) (hr.mono (by decide)) (sa_cons (se_var 7) (sa_cons (se_var 8) (sa_cons (se_var 2) (sa_cons (se_var 4) sa_nil))))))) vvs_never vv_nil)
  (vv_one (vv_set 5 nd (sx_pure (se_add (se_var 5) (se_lenK (K := K) W.b_len (SE.sq (se_call (d_law_owned W) (hr.mono (by decide)) (sa_cons (se_var 7) (sa_cons (se_var 8) (sa_cons (se_var 2) sa_nil)))))))))))))
  (vv_cons (vv_set 9 nd (sx_pure (se_call (d_law_rests W) (hr.mono (by decide)) (sa_cons (se_var 1) (sa_cons (se_var 2) sa_nil)))))
  (vv_cons (vv_if (st_lt (se_var 1) se_int) (vv_one (vv_set 9 nd (sx_pure (se_if (st_gt (se_var 2) se_int) (se_mul (se_var 9) (se_getD hr.units (se_disp2 (se_neg se_int) se_int (se_neg se_int) se_int) (se_var 1) se_int)) se_int)))) vv_nil)
  (vv_cons (vv_if (st_ne (se_var 5) (se_var 9)) vvs_never vv_nil)
  (vv_cons (vv_set 7 nd (sx_ixT (K := K) (sx_pure (se_var 3)) (sx_call1 0 (d_law_dip W) (hr.mono (by decide)) (sx_pure (se_lenK (K := K) W.b_len (SE.sq (se_var 3)))))))
  (vv_cons (vv_set 10 nd (sx_call1 0 (d_law_change W) (hr.mono (by decide)) (sx_add (sx_pure se_int) (sx_call1 0 (d_law_dip W) (hr.mono (by decide)) (sx_pure se_int)))))
  (vv_cons (vv_if (st_ne (se_call (d_is_solved W) (hr.mono (by decide)) (sa_cons (se_meth (m_changed W) (hr.mono (by decide)) (se_var 7) (se_var 10)) (sa_cons (se_var 2) sa_nil))) (se_call (d_is_solved W) (hr.mono (by decide)) (sa_cons (se_var 7) (sa_cons (se_var 2) sa_nil)))) vvs_never vv_nil)
  (vv_one (vv_ret (sx_pure (se_or (se_lt (se_var 1) se_int) (se_one (se_eqF (d_eq W) (hr.mono (by decide)) (se_meth (m_changed W) (hr.mono (by decide)) (se_var 7) (se_call (d_turn W) (hr.mono (by decide)) (sa_cons (se_var 7) sa_nil))) (se_var 7)))))))))))))))))⟩) (W.g 81 rfl) (F.bindsN fun _ _ _ _ _ _ us hl => match us, hl with | [_], _ => rfl)
end
end L3
set_option maxHeartbeats 4000000
namespace L3
open PySem L2 RZ
/-! ### the law itself: its script -/
theorem sqL_le {K : PySem.W.Frag} {H H' : Hp} {a l : Addr} {xs : List V} (h : SqL K H a xs) (le : ∀ b o, H b = some o → b ≠ l → H' b = some o) (ne : a ≠ l) : SqL K H' a xs := by
  rcases h with (h | ⟨o, h⟩) | h
  · exact .inl (.inl (le _ _ h ne))
  · exact .inl (.inr ⟨o, le _ _ h ne⟩)
  · exact .inr h
theorem sqL_up {K : PySem.W.Frag} {H H' : Hp} {a : Addr} {xs : List V} (h : SqL K H a xs) (le : Le H H') : SqL K H' a xs := by
  rcases h with (h | ⟨o, h⟩) | h
  · exact .inl (.inl (le _ _ h))
  · exact .inl (.inr ⟨o, le _ _ h⟩)
  · exact .inr h
def rLn (K : PySem.W.Frag) : List V → Hp → VK → Prop := fun xs H Q => ∃ p ys, xs = [.ref p] ∧ (SqL K H p ys ∨ SqT K H p ys) ∧ Q (.int ys.length) H
def rI1 : List V → Hp → VK → Prop := fun xs H Q => (∃ i, xs = [.int i] ∧ Q (.int i) H) ∨ ∃ k, xs = [.bl k] ∧ Q (.int (if k then 1 else 0)) H
def rAb : List V → Hp → VK → Prop := fun xs H Q => ∃ i, xs = [.int i] ∧ Q (.int (if i < 0 then -i else i)) H
abbrev rAdd : R2 := rI0 fun i j => .int (i + j)
abbrev rMul : R2 := rI CMul fun i j => .int (i * j)
abbrev rMod : R2 := rI (fun _ j => j ≠ 0) fun i j => .int (i.fmod j)
/-- the promise of _law_well -/
def spWell (K : PySem.W.Frag) : Sp := fun vs H Q _ => ∃ (a : Addr) (ns : List Int) (k : Int), vs = [.ref a, .int k] ∧ SqL K H a (ns.map V.int) ∧ 0 ≤ k ∧
  ∀ (m c : Int) (p : Addr) (H' : Hp), 0 ≤ m → 0 ≤ c → Le H H' → H p = none → H' p = some (.lst [.int m, .int c, .int 0]) → Q (.ref p) H'
def tWellB : TS := tAsg (tOp rMod (tCB rI1 (tCons (tOp rAdd (tOp rAdd (tOp rMul (tVar 3) (tC (.int 48271))) (tOp rMod (tCB rI1 (tCons (tVar 4) tNil)) (tC (.int 2147483587)))) (tC (.int 13))) tNil)) (tC (.int 2147483629))) (gName 3)
def tWellE : TS := tSeq (tAsg (tOp rMod (tCB rI1 (tCons (tOp rAdd (tOp rAdd (tOp rMul (tVar 3) (tC (.int 69621))) (tOp rMod (tCB rI1 (tCons (tVar 2) tNil)) (tC (.int 2147483579)))) (tC (.int 5))) tNil)) (tC (.int 2147483629))) (gName 3))
  (tRet (tLst (tCons (tVar 3) (tCons (tIf (tTest (tOp (rI0 fun i j => .bl (decide (j ≤ i))) (tCB rAb (tCons (tVar 2) tNil)) (tOp (rI CPow fun i j => .int (i ^ j.toNat)) (tC (.int 10)) (tC (.int 18))))) (tCB rAb (tCons (tVar 2) tNil)) (tC (.int 0))) (tCons (tC (.int 0)) tNil)))))
def tWellR (K : PySem.W.Frag) : TS := tSeq (tAsg (tOp rAdd (tC (.int 104729)) (tOp rMul (tC (.int 7907)) (tVar 1))) (gName 3)) (tSeq (tFor (iList K (tSl (rSlL K) (tVar 0) tNoPart (tPart (tC (.int 4))))) (gName 4) tWellB) tWellE)
def tWell (K : PySem.W.Frag) : TS := tSeq (tAsg (tIf (tTest (tOp (rI0 fun i j => .bl (decide (i < j))) (tVar 1) (tCB (rLn K) (tCons (tVar 0) tNil)))) (tOp (rIxL K) (tVar 0) (tVar 1)) (tC (.int 0))) (gName 2)) (tWellR K)
theorem mod_nn (i : Int) {j : Int} (h : 0 < j) : 0 ≤ i.fmod j := by rw [Int.fmod_eq_emod_of_nonneg _ (by omega)]; exact Int.emod_nonneg _ (by omega)
theorem well_end {H0 H : Hp} {a : Addr} {k c0 m : Int} {x : Option V} {D : Ends} (q : ∀ (m c : Int) (p : Addr) (H' : Hp), 0 ≤ m → 0 ≤ c → Le H0 H' → H0 p = none → H' p = some (.lst [.int m, .int c, .int 0]) → D.rt (.ref p) H') (l : Le H0 H) :
    tWellE D [some (.ref a), some (.int k), some (.int c0), some (.int m), x] H := by
  have n1 : (2147483579 : Int) ≠ 0 := by decide
  have n2 : (2147483629 : Int) ≠ 0 := by decide
  refine ⟨_, rfl, _, _, rfl, rfl, .inr (by decide), _, rfl, .inl ⟨_, rfl, ?_⟩⟩
  refine ⟨_, _, rfl, rfl, n1, _, _, rfl, rfl, _, _, rfl, rfl, .inl ⟨_, rfl, _, _, rfl, rfl, n2, ?_⟩⟩
  refine ⟨_, rfl, _, rfl, _, rfl, _, _, rfl, rfl, (show CPow 10 18 from ⟨by decide, by decide, by decide⟩), _, _, rfl, rfl, _, rfl, ?_⟩
  have fin : ∀ (m1 c1 : Int), 0 ≤ m1 → 0 ≤ c1 → ([V.int m1, V.int c1, V.int 0]).length ≤ sizeLine ∧ ∀ p, H p = none → D.rt (.ref p) (upd H p (.lst [.int m1, .int c1, .int 0])) := fun m1 c1 h1 h2 =>
    ⟨by show 3 ≤ sizeLine; decide, fun p hp => q m1 c1 p _ h1 h2 (l.trans (Le.new hp)) (l.free hp) upd_same⟩
  generalize decide ((10 : Int) ^ (18 : Int).toNat ≤ (if c0 < 0 then -c0 else c0)) = b
  cases b with
  | true => exact iteT ⟨_, rfl, _, rfl, fin _ _ (mod_nn _ (by decide)) (by split <;> omega)⟩
  | false => exact iteF (fin _ _ (mod_nn _ (by decide)) (by decide))
theorem well_rest {K : PySem.W.Frag} {H : Hp} {a : Addr} {ns : List Int} {k c0 : Int} {D : Ends} (hS : SqL K H a (ns.map V.int)) (q : ∀ (m c : Int) (p : Addr) (H' : Hp), 0 ≤ m → 0 ≤ c → Le H H' → H p = none → H' p = some (.lst [.int m, .int c, .int 0]) → D.rt (.ref p) H') :
    tWellR K D [some (.ref a), some (.int k), some (.int c0), none, none] H := by
  have n1 : (2147483587 : Int) ≠ 0 := by decide
  have n2 : (2147483629 : Int) ≠ 0 := by decide
  refine ⟨_, rfl, _, _, rfl, rfl, .inl (by decide), _, _, rfl, rfl, ?_⟩
  refine ⟨_, rfl, 4, rfl, a, ns.map V.int, rfl, hS, fun p hp => ⟨p, rfl, ⟨_, SqL.of upd_same⟩, ?_⟩⟩
  have ec : cutV (ns.map V.int) none (some 4) = (ns.take 4).map V.int := by rw [cut_take (by decide), List.map_take]; rfl
  rw [ec]
  refine for_list (a := p) (xs := (ns.take 4).map V.int) (fun i σ' H' => H' = upd H p (.lst ((ns.take 4).map V.int)) ∧ ∃ (m : Int) (x : Option V), σ' = [some (.ref a), some (.int k), some (.int c0), some (.int m), x]) ⟨rfl, _, _, rfl⟩ (fun i σ' H' _ h => by rw [h.1]; exact SqL.of upd_same) (fun i x σ' H' hx h => ?_) (fun σ' H' h => ?_)
  · obtain ⟨rfl, m, y, rfl⟩ := h
    obtain ⟨n, rfl⟩ : ∃ n : Int, x = .int n := by
      rw [List.getElem?_map] at hx
      cases z : (ns.take 4)[i]? with
      | none => rw [z] at hx; cases hx
      | some n => rw [z] at hx; cases hx; exact ⟨n, rfl⟩
    refine ⟨_, rfl, _, _, rfl, rfl, .inr (by decide), _, rfl, .inl ⟨_, rfl, ?_⟩⟩
    refine ⟨_, _, rfl, rfl, n1, _, _, rfl, rfl, _, _, rfl, rfl, .inl ⟨_, rfl, _, _, rfl, rfl, n2, ?_⟩⟩
    exact ⟨rfl, _, _, rfl⟩
  · obtain ⟨rfl, m, y, rfl⟩ := h
    exact well_end q (Le.new hp)
theorem well_ok {K : PySem.W.Frag} {vs : List V} {H : Hp} {Q : VK} {E : XK} (h : spWell K vs H Q E) : tWell K { nx := fun _ H' => Q .non H', rt := Q } (start ["_law_script", "_law_k", "_law_cell", "_law_mixed", "_law_each"] vs) H := by
  obtain ⟨a, ns, k, rfl, hS, hk, q⟩ := h
  refine ⟨_, rfl, _, rfl, a, ns.map V.int, rfl, .inl hS, _, _, rfl, rfl, _, rfl, ?_⟩
  cases z : decide (k < ((ns.map V.int).length : Int)) with
  | true =>
    refine iteT ?_
    have z := of_decide_eq_true z
    rw [List.length_map] at z
    have hlt : k.toNat < ns.length := by omega
    have e : atI (ns.map V.int) k = some (.int (ns[k.toNat])) := by
      unfold atI ixN
      rw [if_pos hk, if_pos (by rw [List.length_map]; exact z)]
      simp [hlt]
    refine ⟨_, rfl, _, rfl, a, ns.map V.int, k, _, rfl, rfl, hS, e, ?_⟩
    exact well_rest (K := K) hS q
  | false => exact iteF (well_rest (K := K) hS q)
theorem sc_law_well : FnScope ["_law_script", "_law_k", "_law_cell", "_law_mixed", "_law_each"] ["_law_script", "_law_k"] (defScope (top 107)) := ⟨rfl, rfl, rfl, by decide +kernel, rfl, by decide +kernel, by decide +kernel⟩
section
variable {P : Program} {w : World} {K : PySem.W.Frag} {mg : Str → Option Value} {base : Heap}
theorem ok_law_well (W : Wf K mg) : ∃ fd, FnOk P w K mg base CX0 1 (He.fAd K ("_law_well", none)) fd ["_law_script", "_law_k"] (spWell K) ∧ mg "_law_well" = some (.ref (He.fAd K ("_law_well", none))) ∧ PySem.W.keepIn K (.ref (He.fAd K ("_law_well", none))) = true ∧ Binds K fd ["_law_script", "_law_k"] [] := by
  obtain ⟨fd, F⟩ := W.d 68 rfl
  have nd := sc_law_well.nd
  refine ⟨fd, F.ok sc_law_well (fun vs H Q E h => ?_) (fun cdv A outer sh H vs Q E hr h => ⟨tWell K, PSs.nox ?_, well_ok h⟩), W.g 68 rfl, F.kp, F.bindsN fun _ _ _ _ _ _ us hl => match us, hl with | [_, _], _ => rfl⟩
  · obtain ⟨a, ns, k, rfl, _⟩ := h
    rfl
  · exact pss_cons (ps_set (i := 2) nd rfl (Or.inl rfl) (pe_ifExp (pt_cmpR op_lt (pv 1) (pe_callB call_len_seq (by rfl) W.b_len PySem.boot_len (pa_cons (pv 0) pa_nil)) (nomark _)) (pe_ix ix_list (pv 0) (pv 1) (fun _ _ => rfl)) pe_int))
      (pss_cons (ps_set (i := 3) nd rfl (Or.inl rfl) (pe_op op_add pe_int (pe_op op_mul pe_int (pv 1))))
      (pss_cons (ps_for PassesOwn.never rfl (pi_list (pe_slice sl_list (pv 0) po_none (po_some pe_int))) (pg_name (i := 4) nd rfl (Or.inl rfl))
        (pss_one (ps_set (i := 3) nd rfl (Or.inl rfl) (pe_op op_modN (pe_callTy call_int1 (by rfl) W.b_int (by decide +kernel) (pa_cons (pe_op op_add (pe_op op_add (pe_op op_mul (pv 3) pe_int) (pe_op op_modN (pe_callTy call_int1 (by rfl) W.b_int (by decide +kernel) (pa_cons (pv 4) pa_nil)) pe_int)) pe_int) pa_nil)) pe_int))))
      (pss_cons (ps_set (i := 3) nd rfl (Or.inl rfl) (pe_op op_modN (pe_callTy call_int1 (by rfl) W.b_int (by decide +kernel) (pa_cons (pe_op op_add (pe_op op_add (pe_op op_mul (pv 3) pe_int) (pe_op op_modN (pe_callTy call_int1 (by rfl) W.b_int (by decide +kernel) (pa_cons (pv 2) pa_nil)) pe_int)) pe_int) pa_nil)) pe_int))
      (pss_one (ps_ret (pe_lst (pa_cons (pv 3) (pa_cons (pe_ifExp (pt_cmpR op_ge (pe_callB call_abs (by rfl) W.b_abs (by decide +kernel) (pa_cons (pv 2) pa_nil)) (pe_op op_pow pe_int pe_int) (nomark _)) (pe_callB call_abs (by rfl) W.b_abs (by decide +kernel) (pa_cons (pv 2) pa_nil)) pe_int) (pa_cons pe_int pa_nil))))))))) 
end
end L3
set_option maxHeartbeats 4000000
namespace L3
open PySem L2 RZ
theorem sqL_step {K : PySem.W.Frag} {H H1 H2 : Hp} {a p : Addr} {xs : List V} (h : SqL K H a xs) (le : Le H H1) (hp : H p = none) (fr : ∀ b o, H1 b = some o → b ≠ p → H2 b = some o) : SqL K H2 a xs := by
  rcases h with (h | ⟨o, h⟩) | h
  · exact .inl (.inl (fr _ _ (le _ _ h) fun z => by subst z; rw [hp] at h; cases h))
  · exact .inl (.inr ⟨o, fr _ _ (le _ _ h) fun z => by subst z; rw [hp] at h; cases h⟩)
  · exact .inr h
def spLaw (K : PySem.W.Frag) : Sp := fun vs H Q _ => ∃ (a : Addr) (ns : List Int), vs = [.ref a] ∧ SqL K H a (ns.map V.int) ∧ ∀ H', Q (.bl true) H'
theorem sc_law : FnScope ["_law_script", "_law_k"] ["_law_script"] (defScope (top 121)) := ⟨rfl, rfl, rfl, by decide +kernel, rfl, by decide +kernel, by decide +kernel⟩
def RightT : Prop := ∀ m c : Int, 0 ≤ m → 0 ≤ c → ∃ ws', F_law_right [.int m, .int c, .int 0] [] = some (.bl true, ws')
def tLaw (C : Addr) (K : PySem.W.Frag) : TS := tSeq (tFor (iRng1 (tCons (tCB (fun xs H Q => ∃ i j, xs = [.int i, .int j] ∧ Q (.int (if j > i then j else i)) H) (tCons (tC (.int 2)) (tCons (tCB (fun xs H Q => ∃ i j, xs = [.int i, .int j] ∧ Q (.int (if j < i then j else i)) H) (tCons (tCB (rLn K) (tCons (tVar 0) tNil)) (tCons (tC (.int 5)) tNil))) tNil))) tNil)) (gName 1)
    (tIfS (tNot (tB (tDefW C 0 F_law_right (tCons (tCall (spWell K) [] E0 (tCons (tVar 0) (tCons (tVar 1) tNil))) tNil)))) tNever tNext)) (tRet (tC (.bl true)))
theorem law_ok {K : PySem.W.Frag} {C : Addr} (R : RightT) {vs : List V} {H : Hp} {Q : VK} {E : XK} (h : spLaw K vs H Q E) : tLaw C K { nx := fun _ H' => Q .non H', rt := Q } (start ["_law_script", "_law_k"] vs) H := by
  obtain ⟨a, ns, rfl, hS, q⟩ := h
  refine ⟨_, rfl, a, ns.map V.int, rfl, .inl hS, _, _, rfl, _, _, rfl, ?_⟩
  generalize ((ns.map V.int).length : Int) = L
  refine ⟨_, rfl, by split <;> split <;> omega, by split <;> split <;> omega, ?_⟩
  refine for_range (lo := 0) (fun i σ' H' => SqL K H' a (ns.map V.int) ∧ ∃ x, σ' = [some (.ref a), x]) ⟨hS, _, rfl⟩ (fun i σ' H' _ hp => ?_) (fun σ' H' hp => q H')
  obtain ⟨hS', x, rfl⟩ := hp
  refine ⟨_, rfl, _, rfl, a, ns, 0 + i, rfl, hS', by omega, fun m c p H1 hm hc le hp hp1 => ?_⟩
  obtain ⟨ws', e⟩ := R m c hm hc
  refine ⟨p, [], fun _ => none, _, [.int m, .int c, .int 0], [], .bl true, ws', rfl, rfl, fun _ _ z => (nomatch z), rfl, hp1, rpl_cons rp_int (rpl_cons rp_int (rpl_cons rp_int rpl_nil)), rpl_nil, e, fun v Hk' H2 xs' kk kh fr sp k0 hy ry rd => ⟨true, rd.bl, ?_⟩⟩
  exact iteF ⟨sqL_step hS' le hp fr, _, rfl⟩
section
variable {P : Program} {w : World} {K : PySem.W.Frag} {mg : Str → Option Value}
theorem ok_law (R : RightT) (W : Wf K mg) : ∃ fd, (∀ base : Heap, FnOk P w K mg base CX0 17 (He.fAd K ("law", none)) fd ["_law_script"] (spLaw K)) ∧ mg "law" = some (.ref (He.fAd K ("law", none))) ∧ ∀ (s : Shared) (v : Value), BindsTo s fd ⟨[v], []⟩ [("_law_script", v)] := by
  obtain ⟨fd, F⟩ := W.d 82 rfl
  have nd := sc_law.nd
  have b := FunD.bindsA (ps := ["_law_script"]) F fun _ _ _ _ _ _ us hl => match us, hl with | [_], _ => rfl
  refine ⟨fd, fun base => ?_, W.g 82 rfl, fun s v => b s [v] rfl⟩
  obtain ⟨fdw, Gw, mw, kw, bw⟩ := ok_law_well (P := P) (w := w) (base := base) W
  refine F.ok sc_law (fun vs H Q E h => ?_) (fun cdv A outer sh H vs Q E hr h => ⟨tLaw (CF K) K, PSs.nox ?_, law_ok R h⟩)
  · obtain ⟨a, ns, rfl, _⟩ := h
    rfl
  · exact pss_cons (ps_for PassesOwn.never rfl (pi_range1 (by rfl) W.b_range (pa_cons (pe_callB (call_max2 rfl) (by rfl) W.b_max (by decide +kernel) (pa_cons pe_int (pa_cons (pe_callB (call_min2 rfl) (by rfl) W.b_min (by decide +kernel) (pa_cons (pe_callB call_len_seq (by rfl) W.b_len PySem.boot_len (pa_cons (pv 0) pa_nil)) (pa_cons pe_int pa_nil))) pa_nil))) pa_nil)) (pg_name (i := 1) nd rfl (Or.inl rfl))
        (pss_one (ps_if (pt_not (pt_val (pe_defW (d_law_right W) (hr.mono (by decide)) (pa_cons (pe_call Gw (hr.mono (by decide)) rfl mw kw bw .nil pass0 (pa_cons (pv 0) (pa_cons (pv 1) pa_nil))) pa_nil) (by rfl)) (by intro _; rfl))) pss_never pss_nil)))
      (pss_one (ps_ret pe_bl))
end
end L3
set_option maxHeartbeats 4000000
namespace L3
open PySem L2 RZ
/-! ### the plain law: numbers -/
theorem dMul_l {i j : Int} (h : i.natAbs < 2 ^ 64) : dMul (.int i) (.int j) = some (.int (i * j)) := by
  unfold dMul mulOk
  simp only [h, decide_true, Bool.true_or, if_true]
theorem dMul_r {i j : Int} (h : j.natAbs < 2 ^ 64) : dMul (.int i) (.int j) = some (.int (i * j)) := by
  unfold dMul mulOk
  simp only [h, decide_true, Bool.or_true, if_true]
theorem dDiv_ok {i j : Int} (h : j ≠ 0) (h' : j.natAbs < 1073741824) : dDiv (.int i) (.int j) = some (.int (i.fdiv j)) := by
  unfold dDiv
  simp only [h, h', ne_eq, not_false_eq_true, and_self, if_true]
theorem dMod_ok {i j : Int} (h : j ≠ 0) : dMod (.int i) (.int j) = some (.int (i.fmod j)) := by
  unfold dMod
  simp only [h, ne_eq, not_false_eq_true, if_true]
def isInt (x : Option Dat) (i : Int) : Bool := match x with
  | some (.int j) => decide (i = j)
  | _ => false
def isBl (x : Option Dat) (b : Bool) : Bool := match x with
  | some (.bl c) => b == c
  | _ => false
theorem isInt_ok {x : Option Dat} {i : Int} (h : isInt x i = true) : x = some (.int i) := by
  unfold isInt at h
  split at h
  · rw [of_decide_eq_true h]
  · cases h
theorem isBl_ok {x : Option Dat} {b : Bool} (h : isBl x b = true) : x = some (.bl b) := by
  unfold isBl at h
  split at h
  · rw [beq_iff_eq.mp h]
  · cases h
/-- the root below 1024 -/
def rt (v : Nat) : Nat :=
  let a := if Nat.ble 256 v then 16 else 0
  let b := if Nat.ble ((a + 8) * (a + 8)) v then a + 8 else a
  let c := if Nat.ble ((b + 4) * (b + 4)) v then b + 4 else b
  let d := if Nat.ble ((c + 2) * (c + 2)) v then c + 2 else c
  if Nat.ble ((d + 1) * (d + 1)) v then d + 1 else d
theorem root_all : ((List.range 640).all fun v => isInt (F_root_of [.int (v : Nat)]) (rt v : Nat)) = true := by decide +kernel
theorem root_ok {v : Nat} (h : v < 640) : F_root_of [.int v] = some (.int (rt v)) :=
  isInt_ok (List.all_eq_true.mp root_all v (List.mem_range.mpr h))
def isD (D : Int) : Bool := decide (D % 4 ≤ 1) && (decide (D < 0) || !(decide (((rt D.toNat : Nat) : Int) * (rt D.toNat : Nat) = D)))
theorem disc_all : ((List.range 241).all fun (i : Nat) => isBl (F_is_discriminant [.int ((i : Int) - 120)]) (isD ((i : Int) - 120))) = true := by decide +kernel
theorem disc_ok {D : Int} (h : -120 ≤ D) (h' : D ≤ 120) : F_is_discriminant [.int D] = some (.bl (isD D)) := by
  have := isBl_ok (List.all_eq_true.mp disc_all (D + 120).toNat (List.mem_range.mpr (by omega)))
  have e : (((D + 120).toNat : Nat) : Int) - 120 = D := by omega
  rw [e] at this
  exact this
/-! ### the greatest common divisor -/
theorem abs_i (i : Int) : (if i < 0 then -i else i) = (i.natAbs : Int) := by split <;> omega
abbrev wgc : En → Option Bool := fB (f2 dNe (fV 1) (fK (.int 0)))
abbrev wgb : En → Option Fl := sPar [0, 1] (bF (fV 1) (bF (f2 dMod (fV 0) (fV 1)) (bNil)))
theorem gcd_loop : ∀ (y x n : Nat), y < n → whileGo wgc wgb n [.fz (.int x), .fz (.int y)] = some (.nx [.fz (.int (Nat.gcd x y : Nat)), .fz (.int 0)]) := by
  intro y
  induction y using Nat.strongRecOn with
  | ind y ih =>
    intro x n hn
    cases n with
    | zero => omega
    | succ n =>
      have c : wgc [.fz (.int x), .fz (.int y)] = some (!decide ((y : Int) = 0)) := rfl
      by_cases z : y = 0
      · subst z
        show (wgc _).bind _ = _
        rw [c]
        rw [Nat.gcd_zero_right]
        rfl
      · have c' : wgc [.fz (.int x), .fz (.int y)] = some true := by
          rw [c, decide_eq_false (by omega)]; rfl
        have b : wgb [.fz (.int x), .fz (.int y)] = some (.nx [.fz (.int y), .fz (.int ((x % y : Nat) : Int))]) := by
          have hy : (y : Int) ≠ 0 := by omega
          simp [wgb, sPar, bF, bNil, fV, f2, dMod, setsE, z]
          exact Int.fmod_eq_emod_of_nonneg _ (by omega)
        show (wgc _).bind _ = _
        rw [c']
        show (wgb _).bind _ = _
        rw [b]
        show whileGo wgc wgb n _ = _
        have lt : x % y < y := Nat.mod_lt _ (by omega)
        rw [ih (x % y) lt y n (by omega), Nat.gcd_comm x y, Nat.gcd_rec y x, Nat.gcd_comm]
theorem gcd_ok {x y : Int} (h : y.natAbs < 1000000) : F_common_divisor [.int x, .int y] = some (.int (Int.gcd x y : Nat)) := by
  have e : F_common_divisor [.int x, .int y] = ((whileGo wgc wgb fuel [.fz (.int (x.natAbs : Nat)), .fz (.int (y.natAbs : Nat))]).bind fun r => match r with
    | .nx ρ' => (sRet (fV 0)) ρ'
    | .rt d => some (.rt d)).bind fun r => match r with
    | .rt d => some d
    | .nx _ => some .non := by
    simp [F_common_divisor, runF, s_common_divisor, sSeq, sPar, bF, bNil, fC, dAbs, fCons, fNil, fV, setsE, abs_i, sWhile]
    try rfl
  rw [e, gcd_loop _ _ _ (by show _ < 1000000; exact h)]
  rfl
def gcd3 (a b c : Int) : Nat := Nat.gcd (Nat.gcd a.natAbs b.natAbs) c.natAbs
theorem content_ok {a b c : Int} (ha : a.natAbs < 1000000) (hb : b.natAbs < 1000000) (hc : c.natAbs < 1000000) : P_content [.frm a b c] = some (.int (gcd3 a b c : Nat)) := by
  have g1 := gcd_ok (x := 0) ha
  have g2 := gcd_ok (x := (Int.gcd 0 a : Nat)) hb
  have g3 := gcd_ok (x := (Int.gcd (Int.gcd 0 a : Nat) b : Nat)) hc
  simp only [P_content, runF, s_m_content, F_common_of, s_common_of, sSeq, sRet, fC, fCons, fNil, f1, dHeld0, fV, sSet, fK, sFor, fSq, seqOf, forGo, gN, List.map, List.replicate, List.append, Option.bind_some, List.getElem?_cons_zero, List.set, List.cons_append, List.nil_append, List.getElem?_cons_succ, g1, g2, g3]
  simp [gcd3, Int.gcd]
end L3
set_option maxHeartbeats 4000000
namespace L3
open PySem L2 RZ
/-! ### each combinator at an env -/
section
variable {s0 : Sl} {ρ0 : En}
@[simp] theorem ev_fV0 {d : Dat} : fV 0 (.fz d :: ρ0) = some d := rfl
@[simp] theorem ev_fVs {n : Nat} : fV (n + 1) (s0 :: ρ0) = fV n ρ0 := rfl
@[simp] theorem ev_fO0 {d : List Dat} : fO 0 (.ow d :: ρ0) = some d := rfl
@[simp] theorem ev_fOs {n : Nat} : fO (n + 1) (s0 :: ρ0) = fO n ρ0 := rfl
@[simp] theorem ev_fK {d : Dat} : fK d (s0 :: ρ0) = some d := rfl
@[simp] theorem ev_fNil : fNil (s0 :: ρ0) = some [] := rfl
@[simp] theorem ev_bNil : bNil (s0 :: ρ0) = some [] := rfl
@[simp] theorem ev_fYes : fYes (s0 :: ρ0) = some true := rfl
@[simp] theorem ev_sNext' : sNext (s0 :: ρ0) = some (.nx (s0 :: ρ0)) := rfl
@[simp] theorem ev_gN {i : Nat} {d : Dat} : gN i d (s0 :: ρ0) = some ((s0 :: ρ0).set i (.fz d)) := rfl
@[simp] theorem ev_gsN : gsN [] (s0 :: ρ0) = some (s0 :: ρ0) := rfl
@[simp] theorem ev_gsC {h : Dat → En → Option En} {k : List Dat → En → Option En} {d : Dat} {ds : List Dat} : gsC h k (d :: ds) (s0 :: ρ0) = (h d (s0 :: ρ0)).bind fun ρ1 => k ds ρ1 := rfl
@[simp] theorem ev_gT {k : List Dat → En → Option En} {ds : List Dat} : gT k (.tup ds) (s0 :: ρ0) = k ds (s0 :: ρ0) := rfl
@[simp] theorem ev_for0 {h : Dat → En → Option En} {b : En → Option Fl} {ρ : En} : forGo h b [] ρ = some (.nx ρ) := rfl
@[simp] theorem ev_forc {h : Dat → En → Option En} {b : En → Option Fl} {d : Dat} {ds : List Dat} : forGo h b (d :: ds) (s0 :: ρ0) = (h d (s0 :: ρ0)).bind fun ρ1 => (b ρ1).bind fun r => match r with
    | .nx ρ2 => forGo h b ds ρ2
    | .rt v => some (.rt v) := rfl
@[simp] theorem ev_lc0 {gt : Dat → En → Option En} {tt : En → Option Bool} {te : En → Option Dat} : lcGo gt tt te (s0 :: ρ0) [] = some [] := rfl
@[simp] theorem ev_lcc {gt : Dat → En → Option En} {tt : En → Option Bool} {te : En → Option Dat} {d : Dat} {ds : List Dat} : lcGo gt tt te (s0 :: ρ0) (d :: ds) = (gt d (s0 :: ρ0)).bind fun ρ1 => (tt ρ1).bind fun b => match b with
    | true => (te ρ1).bind fun y => (lcGo gt tt te (s0 :: ρ0) ds).bind fun ys => some (y :: ys)
    | false => lcGo gt tt te (s0 :: ρ0) ds := rfl
@[simp] theorem ev_wipe0 {ρ : En} : wipeE ρ [] = ρ := rfl
@[simp] theorem ev_wipec {ρ : En} {v : Nat} {vs : List Nat} : wipeE ρ (v :: vs) = (wipeE ρ vs).set v .no := rfl
@[simp] theorem ev_sets0 {ρ : En} {ss : List Sl} : setsE ρ [] ss = ρ := by cases ss <;> rfl
@[simp] theorem ev_setsc {ρ : En} {i : Nat} {is : List Nat} {s : Sl} {ss : List Sl} : setsE ρ (i :: is) (s :: ss) = setsE (ρ.set i s) is ss := rfl
@[simp] theorem ev_seqT {ds : List Dat} : seqOf (.tup ds) = some ds := rfl
@[simp] theorem ev_seqL {ds : List Dat} : seqOf (.lst ds) = some ds := rfl
@[simp] theorem ev_tupOf {ds : List Dat} : tupOf (.tup ds) = some ds := rfl
@[simp] theorem ev_lstOf {ds : List Dat} : lstOf (.lst ds) = some ds := rfl
@[simp] theorem ev_intOf {i : Int} : intOf (.int i) = some i := rfl
@[simp] theorem ev_blOf {b : Bool} : blOf (.bl b) = some b := rfl
@[simp] theorem ev_add {i j : Int} : dAdd (.int i) (.int j) = some (.int (i + j)) := rfl
@[simp] theorem ev_sub {i j : Int} : dSub (.int i) (.int j) = some (.int (i - j)) := rfl
@[simp] theorem ev_neg {i : Int} : dNeg (.int i) = some (.int (-i)) := rfl
@[simp] theorem ev_eqI {i j : Int} : dEq (.int i) (.int j) = some (.bl (decide (i = j))) := rfl
@[simp] theorem ev_neI {i j : Int} : dNe (.int i) (.int j) = some (.bl (!decide (i = j))) := rfl
@[simp] theorem ev_eqB {i j : Bool} : dEq (.bl i) (.bl j) = some (.bl (decide (i = j))) := rfl
@[simp] theorem ev_neB {i j : Bool} : dNe (.bl i) (.bl j) = some (.bl (!decide (i = j))) := rfl
@[simp] theorem ev_cmp {p : Int → Int → Bool} {i j : Int} : dCmp p (.int i) (.int j) = some (.bl (p i j)) := rfl
@[simp] theorem ev_len {ds : List Dat} : dLen ds = some (.int ds.length) := rfl
@[simp] theorem ev_dtup {ds : List Dat} : dTup ds = some (.tup ds) := rfl
@[simp] theorem ev_abs {i : Int} : dAbs [.int i] = some (.int (i.natAbs : Nat)) := by
  show some (Dat.int (if i < 0 then -i else i)) = _
  rw [abs_i]
@[simp] theorem ev_dint {i : Int} : dInt [.int i] = some (.int i) := rfl
@[simp] theorem ev_held0 {a b c : Int} : dHeld0 (.frm a b c) = some (.tup [.int a, .int b, .int c]) := rfl
@[simp] theorem ev_held1 {a b c : Int} : dHeld1 (.frm a b c) = some (.tup [.tup [.int (2 * a), .int b], .tup [.int b, .int (2 * c)]]) := rfl
@[simp] theorem ev_ix0 {d : Dat} {ds : List Dat} : dIxL (d :: ds) (.int 0) = some d := by
  show (ixN (ds.length + 1) 0).bind _ = _
  unfold ixN
  rw [if_pos (by decide), if_pos (by omega)]
  rfl
@[simp] theorem ev_ix1 {d e : Dat} {ds : List Dat} : dIxL (d :: e :: ds) (.int 1) = some e := by
  show (ixN (ds.length + 1 + 1) 1).bind _ = _
  unfold ixN
  rw [if_pos (by decide), if_pos (by omega)]
  rfl
@[simp] theorem ev_ix2 {d e f : Dat} {ds : List Dat} : dIxL (d :: e :: f :: ds) (.int 2) = some f := by
  show (ixN (ds.length + 1 + 1 + 1) 2).bind _ = _
  unfold ixN
  rw [if_pos (by decide), if_pos (by omega)]
  rfl
@[simp] theorem ev_dEqF {a b c a' b' c' : Int} : dEqF (.frm a b c) (.frm a' b' c') = some (.bl (decide (a = a' ∧ b = b' ∧ c = c'))) := rfl
@[simp] theorem ev_dNeF {a b c a' b' c' : Int} : dNeF (.frm a b c) (.frm a' b' c') = some (.bl (!decide (a = a' ∧ b = b' ∧ c = c'))) := rfl
@[simp] theorem ev_zipL {xs ys : List Dat} : dZip [.lst xs, .lst ys] = some (zipD xs ys) := rfl
@[simp] theorem ev_zipT {xs ys : List Dat} : dZip [.tup xs, .tup ys] = some (zipD xs ys) := rfl
@[simp] theorem ev_zipc {x y : Dat} {xs ys : List Dat} : zipD (x :: xs) (y :: ys) = .tup [x, y] :: zipD xs ys := rfl
@[simp] theorem ev_zip0 {ys : List Dat} : zipD [] ys = [] := rfl
@[simp] theorem ev_enum0 {k : Nat} : enumD k [] = [] := rfl
@[simp] theorem ev_enumc {k : Nat} {d : Dat} {ds : List Dat} : enumD k (d :: ds) = .tup [.int (k : Nat), d] :: enumD (k + 1) ds := rfl
@[simp] theorem ev_ixN10 : ixN 1 0 = some 0 := rfl
@[simp] theorem ev_ixN20 : ixN 2 0 = some 0 := rfl
@[simp] theorem ev_ixN21 : ixN 2 1 = some 1 := rfl
@[simp] theorem ev_ixm2 {d e : Dat} : dIxL [d, e] (.int (-1)) = some e := rfl
@[simp] theorem ev_ixm1 {d : Dat} : dIxL [d] (.int (-1)) = some d := rfl
@[simp] theorem irng00 : irng 0 0 = [] := rfl
@[simp] theorem irng02 : irng 0 2 = [.int 0, .int 1] := rfl
@[simp] theorem irng01 : irng 0 1 = [.int 0] := rfl
@[simp] theorem irng12 : irng 1 2 = [.int 1] := rfl
@[simp] theorem ev_f1 (g : Dat → Option Dat) (a : En → Option Dat) : f1 g a (s0 :: ρ0) = ((a (s0 :: ρ0)).bind g) := rfl
@[simp] theorem ev_f2 (g : Dat → Dat → Option Dat) (a b : En → Option Dat) : f2 g a b (s0 :: ρ0) = ((a (s0 :: ρ0)).bind fun x => (b (s0 :: ρ0)).bind fun y => g x y) := rfl
@[simp] theorem ev_fC (g : List Dat → Option Dat) (a : En → Option (List Dat)) : fC g a (s0 :: ρ0) = ((a (s0 :: ρ0)).bind g) := rfl
@[simp] theorem ev_fLst (a : En → Option (List Dat)) : fLst a (s0 :: ρ0) = ((a (s0 :: ρ0)).bind fun ds => some (.lst ds)) := rfl
@[simp] theorem ev_fTup (a : En → Option (List Dat)) : fTup a (s0 :: ρ0) = ((a (s0 :: ρ0)).bind fun ds => some (.tup ds)) := rfl
@[simp] theorem ev_fUn (a : En → Option Dat) : fUn a (s0 :: ρ0) = ((a (s0 :: ρ0)).bind lstOf) := rfl
@[simp] theorem ev_fCons (a : En → Option Dat) (b : En → Option (List Dat)) : fCons a b (s0 :: ρ0) = ((a (s0 :: ρ0)).bind fun x => (b (s0 :: ρ0)).bind fun r => some (x :: r)) := rfl
@[simp] theorem ev_fB (a : En → Option Dat) : fB a (s0 :: ρ0) = ((a (s0 :: ρ0)).bind blOf) := rfl
@[simp] theorem ev_fIf (t : En → Option Bool) (a b : En → Option Dat) : fIf t a b (s0 :: ρ0) = ((t (s0 :: ρ0)).bind fun c => match c with
  | true => a (s0 :: ρ0)
  | false => b (s0 :: ρ0)) := rfl
@[simp] theorem ev_fAndV (a b : En → Option Dat) : fAndV a b (s0 :: ρ0) = ((a (s0 :: ρ0)).bind fun x => (blOf x).bind fun c => match c with
  | true => b (s0 :: ρ0)
  | false => some (.bl false)) := rfl
@[simp] theorem ev_fOrV (a b : En → Option Dat) : fOrV a b (s0 :: ρ0) = ((a (s0 :: ρ0)).bind fun x => (blOf x).bind fun c => match c with
  | true => some (.bl true)
  | false => b (s0 :: ρ0)) := rfl
@[simp] theorem ev_fNotV (a : En → Option Dat) : fNotV a (s0 :: ρ0) = ((a (s0 :: ρ0)).bind fun x => (blOf x).bind fun c => some (.bl (!c))) := rfl
@[simp] theorem ev_fAnd (a b : En → Option Bool) : fAnd a b (s0 :: ρ0) = ((a (s0 :: ρ0)).bind fun c => match c with
  | true => b (s0 :: ρ0)
  | false => some false) := rfl
@[simp] theorem ev_fOr (a b : En → Option Bool) : fOr a b (s0 :: ρ0) = ((a (s0 :: ρ0)).bind fun c => match c with
  | true => some true
  | false => b (s0 :: ρ0)) := rfl
@[simp] theorem ev_fNot (a : En → Option Bool) : fNot a (s0 :: ρ0) = ((a (s0 :: ρ0)).bind fun c => some (!c)) := rfl
@[simp] theorem ev_fChain (g g' : Dat → Dat → Option Dat) (a b c : En → Option Dat) : fChain g g' a b c (s0 :: ρ0) = ((a (s0 :: ρ0)).bind fun x => (b (s0 :: ρ0)).bind fun y => (g x y).bind fun u => (blOf u).bind fun k => match k with
  | true => (c (s0 :: ρ0)).bind fun z => g' y z
  | false => some (.bl false)) := rfl
@[simp] theorem ev_fIxL (a : En → Option (List Dat)) (b : En → Option Dat) : fIxL a b (s0 :: ρ0) = ((a (s0 :: ρ0)).bind fun ds => (b (s0 :: ρ0)).bind fun y => dIxL ds y) := rfl
@[simp] theorem ev_fSq (a : En → Option Dat) : fSq a (s0 :: ρ0) = ((a (s0 :: ρ0)).bind seqOf) := rfl
@[simp] theorem ev_fCat (a b : En → Option (List Dat)) : fCat a b (s0 :: ρ0) = ((a (s0 :: ρ0)).bind fun x => (b (s0 :: ρ0)).bind fun y => if x.length + y.length ≤ 100000 then some (x ++ y) else none) := rfl
@[simp] theorem ev_fDrop (a : En → Option (List Dat)) (b : En → Option Dat) : fDrop a b (s0 :: ρ0) = ((a (s0 :: ρ0)).bind fun x => (b (s0 :: ρ0)).bind fun y => (intOf y).bind fun i => if 0 ≤ i then some (x.drop i.toNat) else none) := rfl
@[simp] theorem ev_fTake (a : En → Option (List Dat)) (b : En → Option Dat) : fTake a b (s0 :: ρ0) = ((a (s0 :: ρ0)).bind fun x => (b (s0 :: ρ0)).bind fun y => (intOf y).bind fun i => if 0 ≤ i then some (x.take i.toNat) else none) := rfl
@[simp] theorem ev_fTakeT (k : Nat) (a : En → Option Dat) : fTakeT k a (s0 :: ρ0) = ((a (s0 :: ρ0)).bind fun x => (tupOf x).bind fun ds => if k < ds.length then some (.tup (ds.take k)) else none) := rfl
@[simp] theorem ev_fProp (F : List Dat → Option Dat) (f : En → Option Dat) : fProp F f (s0 :: ρ0) = ((f (s0 :: ρ0)).bind fun d => match d with
  | .frm a b c => F [.frm a b c]
  | _ => none) := rfl
@[simp] theorem ev_fMeth (F : List Dat → Option Dat) (f g : En → Option Dat) : fMeth F f g (s0 :: ρ0) = ((f (s0 :: ρ0)).bind fun d => (g (s0 :: ρ0)).bind fun z => match d with
  | .frm a b c => F [.frm a b c, z]
  | _ => none) := rfl
@[simp] theorem ev_fRng1 (a : En → Option (List Dat)) : fRng1 a (s0 :: ρ0) = ((a (s0 :: ρ0)).bind fun ds => match ds with
  | [.int n] => if -1000000 ≤ n ∧ n ≤ 1000000 then some (irng 0 n) else none
  | _ => none) := rfl
@[simp] theorem ev_fRng2 (a : En → Option (List Dat)) : fRng2 a (s0 :: ρ0) = ((a (s0 :: ρ0)).bind fun ds => match ds with
  | [.int m, .int n] => if -1000000 ≤ m ∧ m ≤ 1000000 ∧ -1000000 ≤ n ∧ n ≤ 1000000 then some (irng m n) else none
  | _ => none) := rfl
@[simp] theorem ev_fLc (it : En → Option (List Dat)) (gt : Dat → En → Option En) (tt : En → Option Bool) (te : En → Option Dat) (vs : List Nat) : fLc it gt tt te vs (s0 :: ρ0) = ((it (s0 :: ρ0)).bind fun ds =>
  if ds.length ≤ 100000 then lcGo gt tt te (wipeE (s0 :: ρ0) vs) ds else none) := rfl
@[simp] theorem ev_sNext : sNext  (s0 :: ρ0) = (some (.nx (s0 :: ρ0))) := rfl
@[simp] theorem ev_sSeq (a b : En → Option Fl) : sSeq a b (s0 :: ρ0) = ((a (s0 :: ρ0)).bind fun r => match r with
  | .nx ρ' => b ρ'
  | .rt d => some (.rt d)) := rfl
@[simp] theorem ev_sSet (i : Nat) (f : En → Option Dat) : sSet i f (s0 :: ρ0) = ((f (s0 :: ρ0)).bind fun d => some (.nx ((s0 :: ρ0).set i (.fz d)))) := rfl
@[simp] theorem ev_sSetO (i : Nat) (f : En → Option (List Dat)) : sSetO i f (s0 :: ρ0) = ((f (s0 :: ρ0)).bind fun ds => some (.nx ((s0 :: ρ0).set i (.ow ds)))) := rfl
@[simp] theorem ev_sAsg (f : En → Option Dat) (h : Dat → En → Option En) : sAsg f h (s0 :: ρ0) = ((f (s0 :: ρ0)).bind fun d => (h d (s0 :: ρ0)).bind fun ρ' => some (.nx ρ')) := rfl
@[simp] theorem ev_sIf (t : En → Option Bool) (a b : En → Option Fl) : sIf t a b (s0 :: ρ0) = ((t (s0 :: ρ0)).bind fun c => match c with
  | true => a (s0 :: ρ0)
  | false => b (s0 :: ρ0)) := rfl
@[simp] theorem ev_sRet (f : En → Option Dat) : sRet f (s0 :: ρ0) = ((f (s0 :: ρ0)).bind fun d => some (.rt d)) := rfl
@[simp] theorem ev_sRetO (f : En → Option (List Dat)) : sRetO f (s0 :: ρ0) = ((f (s0 :: ρ0)).bind fun ds => some (.rt (.lst ds))) := rfl
@[simp] theorem ev_sApp (i : Nat) (f : En → Option Dat) : sApp i f (s0 :: ρ0) = ((fO i (s0 :: ρ0)).bind fun ds => (f (s0 :: ρ0)).bind fun d => if ds.length < 100000 then some (.nx ((s0 :: ρ0).set i (.ow (ds ++ [d])))) else none) := rfl
@[simp] theorem ev_sExt (i : Nat) (f : En → Option (List Dat)) : sExt i f (s0 :: ρ0) = ((fO i (s0 :: ρ0)).bind fun ds => (f (s0 :: ρ0)).bind fun es => if ds.length + es.length ≤ 100000 then some (.nx ((s0 :: ρ0).set i (.ow (ds ++ es)))) else none) := rfl
@[simp] theorem ev_sSetI (i : Nat) (g : En → Option Dat) (f : En → Option Dat) : sSetI i g f (s0 :: ρ0) = ((f (s0 :: ρ0)).bind fun d => (fO i (s0 :: ρ0)).bind fun ds => (g (s0 :: ρ0)).bind fun k => (intOf k).bind fun k => (ixN ds.length k).bind fun j => some (.nx ((s0 :: ρ0).set i (.ow (ds.set j d))))) := rfl
@[simp] theorem ev_sAug (p : Int → Int → Int) (i : Nat) (f : En → Option Dat) : sAug p i f (s0 :: ρ0) = ((fV i (s0 :: ρ0)).bind fun a => (intOf a).bind fun a => (f (s0 :: ρ0)).bind fun b => (intOf b).bind fun b => some (.nx ((s0 :: ρ0).set i (.fz (.int (p a b)))))) := rfl
@[simp] theorem ev_sFor (it : En → Option (List Dat)) (h : Dat → En → Option En) (b : En → Option Fl) : sFor it h b (s0 :: ρ0) = ((it (s0 :: ρ0)).bind fun ds => forGo h b ds (s0 :: ρ0)) := rfl
@[simp] theorem ev_bF (a : En → Option Dat) (b : En → Option (List Sl)) : bF a b (s0 :: ρ0) = ((a (s0 :: ρ0)).bind fun x => (b (s0 :: ρ0)).bind fun r => some (.fz x :: r)) := rfl
@[simp] theorem ev_bL (a : En → Option (List Dat)) (b : En → Option (List Sl)) : bL a b (s0 :: ρ0) = ((a (s0 :: ρ0)).bind fun x => (b (s0 :: ρ0)).bind fun r => some (.ow x :: r)) := rfl
@[simp] theorem ev_sPar (is : List Nat) (f : En → Option (List Sl)) : sPar is f (s0 :: ρ0) = ((f (s0 :: ρ0)).bind fun ss => some (.nx (setsE (s0 :: ρ0) is ss))) := rfl
@[simp] theorem ev_fLrg (a : En → Option Dat) : fLrg a (s0 :: ρ0) = ((a (s0 :: ρ0)).bind fun d => (intOf d).bind fun n => if 0 ≤ n ∧ n ≤ 100000 then some (irng 0 n) else none) := rfl
@[simp] theorem ev_sExpr (f : En → Option Dat) : sExpr f (s0 :: ρ0) = ((f (s0 :: ρ0)).bind fun _ => some (.nx (s0 :: ρ0))) := rfl
@[simp] theorem ev_fChain3 (a b c d : En → Option Dat) : fChain3 a b c d (s0 :: ρ0) = ((a (s0 :: ρ0)).bind fun x => (b (s0 :: ρ0)).bind fun y => (dLe x y).bind fun u => (blOf u).bind fun k => match k with
  | true => (c (s0 :: ρ0)).bind fun z => (dLe y z).bind fun u => (blOf u).bind fun k => match k with
    | true => (d (s0 :: ρ0)).bind fun t => dLe z t
    | false => some (.bl false)
  | false => some (.bl false)) := rfl
@[simp] theorem ev_fNinT (a : En → Option Dat) (b : En → Option (List Dat)) : fNinT a b (s0 :: ρ0) = ((a (s0 :: ρ0)).bind fun x => (b (s0 :: ρ0)).bind fun ys => (intOf x).bind fun i => (intsOf ys).bind fun ns => some (.bl (!ns.any fun j => decide (j = i)))) := rfl
@[simp] theorem ev_fEnum (a : En → Option Dat) : fEnum a (s0 :: ρ0) = ((a (s0 :: ρ0)).bind fun d => (tupOf d).bind fun ds => some (enumD 0 ds)) := rfl
@[simp] theorem ev_sSwap (i : Nat) (fk fl f g : En → Option Dat) : sSwap i fk fl f g (s0 :: ρ0) = ((f (s0 :: ρ0)).bind fun d => (g (s0 :: ρ0)).bind fun d' => (fO i (s0 :: ρ0)).bind fun ds => (fk (s0 :: ρ0)).bind fun k => (intOf k).bind fun k => (ixN ds.length k).bind fun j =>
  (fl ((s0 :: ρ0).set i (.ow (ds.set j d)))).bind fun k => (intOf k).bind fun k => (ixN ds.length k).bind fun j' => some (.nx ((s0 :: ρ0).set i (.ow ((ds.set j d).set j' d'))))) := rfl
@[simp] theorem ev_fInn (it : En → Option (List Dat)) (gt : Dat → En → Option En) (tt : En → Option Bool) (te : En → Option Dat) (vs : List Nat) : fInn it gt tt te vs (s0 :: ρ0) = ((it (s0 :: ρ0)).bind fun es => lcGo gt tt te (wipeE (s0 :: ρ0) vs) es) := rfl
@[simp] theorem ev_fLc2 (it : En → Option (List Dat)) (gt : Dat → En → Option En) (tt : En → Option Bool) (inn : En → Option (List Dat)) (vs : List Nat) : fLc2 it gt tt inn vs (s0 :: ρ0) = ((it (s0 :: ρ0)).bind fun ds => (lc2Go gt tt inn (wipeE (s0 :: ρ0) vs) ds).bind fun out => if out.length ≤ 100000 then some out else none) := rfl
@[simp] theorem ev_fIndex (a : En → Option (List Dat)) (b : En → Option Dat) : fIndex a b (s0 :: ρ0) = ((a (s0 :: ρ0)).bind fun ds => (b (s0 :: ρ0)).bind fun x => dIndex ds x) := rfl
@[simp] theorem ev_fKeysL (f : En → Option Dat) : fKeysL f (s0 :: ρ0) = ((f (s0 :: ρ0)).bind fun d => match d with
  | .dic ks _ => some (ks.map Dat.int)
  | _ => none) := rfl
@[simp] theorem ev_f3 (g : Dat → Dat → Dat → Option Dat) (a b c : En → Option Dat) : f3 g a b c (s0 :: ρ0) = ((a (s0 :: ρ0)).bind fun x => (b (s0 :: ρ0)).bind fun y => (c (s0 :: ρ0)).bind fun z => g x y z) := rfl
@[simp] theorem ev_fDisp2 (a b c d : En → Option Dat) : fDisp2 a b c d (s0 :: ρ0) = ((a (s0 :: ρ0)).bind fun k1 => (b (s0 :: ρ0)).bind fun v1 => (c (s0 :: ρ0)).bind fun k2 => (d (s0 :: ρ0)).bind fun v2 => dDisp2 k1 v1 k2 v2) := rfl
@[simp] theorem ev_sFrz (i : Nat) (s : En → Option Fl) : sFrz i s (s0 :: ρ0) = ((fO i (s0 :: ρ0)).bind fun ds => s ((s0 :: ρ0).set i (.fz (.lst ds)))) := rfl
@[simp] theorem ev_xPure (f : En → Option Dat) : xPure f (s0 :: ρ0) = ((f (s0 :: ρ0)).bind fun d => some (d, (s0 :: ρ0))) := rfl
@[simp] theorem ev_xOp (g : Dat → Dat → Option Dat) (a b : XF) : xOp g a b (s0 :: ρ0) = ((a (s0 :: ρ0)).bind fun p => (b p.2).bind fun q => (g p.1 q.1).bind fun d => some (d, q.2)) := rfl
@[simp] theorem ev_xCall0 (i : Nat) (F : List Dat → List Dat → Option (Dat × List Dat)) : xCall0 i F (s0 :: ρ0) = ((fO i (s0 :: ρ0)).bind fun ws => (F ws []).bind fun p => some (p.1, (s0 :: ρ0).set i (.ow p.2))) := rfl
@[simp] theorem ev_xCall1 (i : Nat) (F : List Dat → List Dat → Option (Dat × List Dat)) (a : XF) : xCall1 i F a (s0 :: ρ0) = ((fO i (s0 :: ρ0)).bind fun _ => (a (s0 :: ρ0)).bind fun q => (fO i q.2).bind fun ws => (F ws [q.1]).bind fun p => some (p.1, q.2.set i (.ow p.2))) := rfl
@[simp] theorem ev_vNext : vNext  (s0 :: ρ0) = (some (.nx (s0 :: ρ0))) := rfl
@[simp] theorem ev_vSeq (a b : En → Option Fw) : vSeq a b (s0 :: ρ0) = ((a (s0 :: ρ0)).bind fun r => match r with
  | .nx ρ' => b ρ'
  | .rt d ρ' => some (.rt d ρ')) := rfl
@[simp] theorem ev_vSet (i : Nat) (f : XF) : vSet i f (s0 :: ρ0) = ((f (s0 :: ρ0)).bind fun p => some (.nx (p.2.set i (.fz p.1)))) := rfl
@[simp] theorem ev_vIf (t : En → Option Bool) (a b : En → Option Fw) : vIf t a b (s0 :: ρ0) = ((t (s0 :: ρ0)).bind fun c => match c with
  | true => a (s0 :: ρ0)
  | false => b (s0 :: ρ0)) := rfl
@[simp] theorem ev_vRet (f : XF) : vRet f (s0 :: ρ0) = ((f (s0 :: ρ0)).bind fun p => some (.rt p.1 p.2)) := rfl
@[simp] theorem ev_vSetI (i : Nat) (g : En → Option Dat) (f : En → Option Dat) : vSetI i g f (s0 :: ρ0) = ((f (s0 :: ρ0)).bind fun d => (fO i (s0 :: ρ0)).bind fun ds => (g (s0 :: ρ0)).bind fun k => (intOf k).bind fun k => (ixN ds.length k).bind fun j => some (.nx ((s0 :: ρ0).set i (.ow (ds.set j d))))) := rfl
@[simp] theorem ev_vFor (it : En → Option (List Dat)) (i : Nat) (b : En → Option Fw) : vFor it i b (s0 :: ρ0) = ((it (s0 :: ρ0)).bind fun ds => forGoV (gN i) b ds (s0 :: ρ0)) := rfl
@[simp] theorem ev_vDivm (i : Nat) (f g : En → Option Dat) : vDivm i f g (s0 :: ρ0) = ((f (s0 :: ρ0)).bind fun a => (intOf a).bind fun a => (g (s0 :: ρ0)).bind fun b => (intOf b).bind fun b => (fO 0 (s0 :: ρ0)).bind fun ds =>
  if 0 < b ∧ b < 1073741824 ∧ 1 < ds.length then some (.nx (((s0 :: ρ0).set 0 (.ow (ds.set 1 (.int (a / b))))).set i (.fz (.int (a % b))))) else none) := rfl
end
end L3
set_option maxHeartbeats 4000000
namespace L3
open PySem L2 RZ
/-! ### straight-line defs -/
abbrev ti (a b c : Int) : Dat := .tup [.int a, .int b, .int c]
abbrev tb2 (a b c d : Int) : Dat := .tup [.tup [.int a, .int b], .tup [.int c, .int d]]
theorem is_int (i : Int) : F_is_integer [.int i] = some (.bl true) := rfl
theorem between_ok (i lo hi : Int) : F_is_between [.int i, .int lo, .int hi] = some (.bl (decide (lo ≤ i) && decide (i ≤ hi))) := by
  simp [F_is_between, runF, s_is_between, sRet, fAndV, fC, fCons, fNil, fV, is_int, blOf, fChain, dCmp]
  cases decide (lo ≤ i) <;> rfl
theorem disc_for (a b c : Int) (ha : a.natAbs < 1000000) (hb : b.natAbs < 1000000) : F_discriminant_for [.frm a b c] = some (.int (b * b - 4 * a * c)) := by
  have e1 := dMul_l (i := b) (j := b) (by omega)
  have e2 := dMul_l (i := 4) (j := a) (by decide)
  have e3 := dMul_l (i := 4 * a) (j := c) (by omega)
  have p : P_coefficients [.frm a b c] = some (ti a b c) := rfl
  simp [F_discriminant_for, runF, s_discriminant_for, sSeq, sAsg, fProp, p, gT, gsC, gN, gsN, tupOf, sRet, f2, fV, fK, e1, e2, e3, dSub]
theorem coeffs_ok (a b c : Int) : P_coefficients [.frm a b c] = some (ti a b c) := rfl
theorem table_ok (a b c : Int) : F_table_for [ti a b c] = some (tb2 (2 * a) b b (2 * c)) := by rfl
theorem check_ok {a b c : Int} (ha : a.natAbs ≤ 1000000) (hb : b.natAbs ≤ 1000000) (hc : c.natAbs ≤ 1000000) : F_check_coefficients [ti a b c] = some .non := by
  have q : ∀ i : Int, i.natAbs ≤ 1000000 → F_is_between [.int i, .int (-1000000000000), .int 1000000000000] = some (.bl true) := fun i h => by
    rw [between_ok]
    have h1 : (-1000000000000 : Int) ≤ i := by omega
    have h2 : i ≤ (1000000000000 : Int) := by omega
    simp [h1, h2]
  simp [F_check_coefficients, runF, s_check_coefficients, sSeq, sIf, fOr, fNot, fB, f1, dIsi, fV, blOf, dNinU, fC, dLen, fSq, seqOf, sNext, sFor, fEnum, tupOf, enumD, forGo, gT, gsC, gN, gsN, fCons, fNil, fK, dNeg, q a ha, q b hb, q c hc]
end L3
set_option maxHeartbeats 4000000
namespace L3
open PySem L2 RZ
@[simp] theorem ev_eqN0 : dEqNil [] = some (.bl true) := rfl
@[simp] theorem ev_eqN1 {i : Int} : dEqNil [.int i] = some (.bl false) := rfl
@[simp] theorem ev_eqN2 {i j : Int} : dEqNil [.int i, .int j] = some (.bl false) := rfl
@[simp] theorem ev_neN0 : dNeNil [] = some (.bl false) := rfl
@[simp] theorem ev_neN1 {i : Int} : dNeNil [.lst [.int i]] = some (.bl true) := rfl
@[simp] theorem ev_neN2 {a b c d e f g h : Int} : dNeNil [.lst [.tup [.int a, .int b], .tup [.int c, .int d]], .lst [.tup [.int e, .int f], .tup [.int g, .int h]]] = some (.bl true) := rfl
@[simp] theorem ev_neN3 {a b : Int} : dNeNil [.lst [.tup [.int a, .int b]]] = some (.bl true) := rfl
theorem lessened_ok (r s p q : Int) (hp : p.natAbs < 2 ^ 40) (hr : r.natAbs < 2 ^ 40) (hs : s.natAbs < 2 ^ 40) : F_lessened [.lst [.int r, .int s], .lst [.int p, .int q], .int 0, .int 1] = some (.lst [.int 0, .int (s * p - r * q)]) := by
  have e1 := dMul_l (i := r) (j := p) (by omega)
  have e2 := dMul_l (i := s) (j := p) (by omega)
  have e3 := dMul_l (i := r) (j := q) (by omega)
  have d1 := dDiv_ok (i := 0) (j := 1) (by decide) (by decide)
  have d2 := dDiv_ok (i := s * p - r * q) (j := 1) (by decide) (by decide)
  simp [F_lessened, runF, s_lessened, e1, e2, e3, d1, d2]
theorem mul1 (z : Int) : dMul (.int 1) (.int z) = some (.int z) := by rw [dMul_l (by decide), Int.one_mul]
theorem mulm1 (z : Int) : dMul (.int (-1)) (.int z) = some (.int (-z)) := by rw [dMul_l (by decide), Int.neg_one_mul]
theorem det2 (p q r s : Int) (hp : p.natAbs < 2 ^ 40) (hq : q.natAbs < 2 ^ 40) (hr : r.natAbs < 2 ^ 40) (hs : s.natAbs < 2 ^ 40) : F_determinant [tb2 p q r s] = some (.int (p * s - q * r)) := by
  have l1 := lessened_ok r s p q hp hr hs
  have l2 := lessened_ok p q r s hr hp hq
  by_cases zp : p = 0
  · subst zp
    by_cases zr : r = 0
    · subst zr
      simp [F_determinant, runF, s_determinant]
    · simp [F_determinant, runF, s_determinant, zr, l2, mulm1]
  · by_cases zr : r = 0
    · subst zr
      simp [F_determinant, runF, s_determinant, zp, l1, mul1, Int.mul_comm s p]
    · simp [F_determinant, runF, s_determinant, zp, zr, l1, mul1, Int.mul_comm s p, Int.mul_comm q r]
theorem det1 (s : Int) : F_determinant [.lst [.lst [.int s]]] = some (.int s) := by
  simp [F_determinant, runF, s_determinant, mul1]
/-! ### signatures -/
theorem fraction_ok {x y : Int} (hy : y.natAbs < 1000000) (h0 : y ≠ 0) : ∃ u v, F_fraction [.int x, .int y] = some (.tup [.int u, .int v]) ∧ (x ≠ 0 → u ≠ 0) ∧ v ≠ 0 ∧ u.natAbs ≤ x.natAbs ∧ v.natAbs ≤ y.natAbs ∧ ∃ g : Int, g ≠ 0 ∧ x = g * u ∧ y = g * v := by
  have g := gcd_ok (x := x) (y := y) hy
  have gp : 0 < Int.gcd x y := Int.gcd_pos_of_ne_zero_right _ h0
  have gl : Int.gcd x y ≤ y.natAbs := Nat.le_of_dvd (by omega) (by exact Nat.gcd_dvd_right _ _)
  obtain ⟨u, hu⟩ : (Int.gcd x y : Int) ∣ x := Int.gcd_dvd_left ..
  obtain ⟨v, hv⟩ : (Int.gcd x y : Int) ∣ y := Int.gcd_dvd_right ..
  generalize (Int.gcd x y) = d at g gp gl hu hv
  have dnz : (d : Int) ≠ 0 := by omega
  have key : ∀ e : Int, e ≠ 0 → e.natAbs < 1073741824 → ∀ z w : Int, z = e * w → dDiv (.int z) (.int e) = some (.int w) := fun e he hb z w h => by
    rw [dDiv_ok he hb, h, Int.mul_fdiv_cancel_left _ he]
  have av : y.natAbs = d * v.natAbs := by rw [hv, Int.natAbs_mul]; rfl
  have au : x.natAbs = d * u.natAbs := by rw [hu, Int.natAbs_mul]; rfl
  have vn : v ≠ 0 := fun z => h0 (by rw [hv, z, Int.mul_zero])
  have ub : u.natAbs ≤ x.natAbs := by rw [au]; exact Nat.le_mul_of_pos_left _ gp
  have vb : v.natAbs ≤ y.natAbs := by rw [av]; exact Nat.le_mul_of_pos_left _ gp
  by_cases s : 0 < y
  · have e1 := key d dnz (by omega) x u hu
    have e2 := key d dnz (by omega) y v hv
    refine ⟨u, v, ?_, fun h z => h (by rw [hu, z, Int.mul_zero]), vn, ub, vb, d, dnz, hu, hv⟩
    simp [F_fraction, runF, s_fraction, g, s, e1, e2]
  · have hu' : x = -(d : Int) * -u := by rw [Int.neg_mul_neg]; exact hu
    have hv' : y = -(d : Int) * -v := by rw [Int.neg_mul_neg]; exact hv
    have e1 := key (-d) (by omega) (by omega) x (-u) hu'
    have e2 := key (-d) (by omega) (by omega) y (-v) hv'
    refine ⟨-u, -v, ?_, fun h z => h (by rw [hu', z, Int.mul_zero]), by omega, by omega, by omega, -d, by omega, hu', hv'⟩
    simp [F_fraction, runF, s_fraction, g, s, e1, e2]
end L3
set_option maxHeartbeats 4000000
namespace L3
open PySem L2 RZ
theorem exch2 (w x y z : Dat) : F_exchanged [.lst [.lst [w, x], .lst [y, z]], .int 0, .int 0] = some (.lst [.lst [w, x], .lst [y, z]]) := by
  simp [F_exchanged, runF, s_exchanged]
theorem exch1 (w : Dat) : F_exchanged [.lst [.lst [w]], .int 0, .int 0] = some (.lst [.lst [w]]) := by
  simp [F_exchanged, runF, s_exchanged]
theorem lead2 (p u : Int) (x y z : Dat) (h : p ≠ 0) : F_with_lead [.lst [.lst [.tup [.int p, .int u], x], .lst [y, z]]] = some (.lst [.lst [.tup [.int p, .int u], x], .lst [y, z]]) := by
  simp [F_with_lead, runF, s_with_lead, exch2, h]
theorem lead1 (p u : Int) (h : p ≠ 0) : F_with_lead [.lst [.lst [.tup [.int p, .int u]]]] = some (.lst [.lst [.tup [.int p, .int u]]]) := by
  simp [F_with_lead, runF, s_with_lead, exch1, h]
theorem behind_ok {a b c : Int} (ha : a.natAbs < 400000) (hb : b.natAbs < 1000000) (hc : c.natAbs < 1000000) (a0 : a ≠ 0) (D0 : b * b - 4 * a * c ≠ 0) : ∃ t u, F_behind [.lst [.tup [.int b, .int 1], .tup [.int (2 * c), .int 1]], .lst [.tup [.int (2 * a), .int 1], .tup [.int b, .int 1]]] = some (.lst [.tup [.int t, .int u]]) ∧ t ≠ 0 := by
  obtain ⟨u, v, e1, -, v0, ub, vb, g, g0, hu, hv⟩ := fraction_ok (x := b) (y := 2 * a) (by omega) (by omega)
  obtain ⟨t, s, e2, tn, -⟩ := fraction_ok (x := 2 * c * v - u * b) (y := v) (by omega) v0
  have m1 := dMul_l (i := b) (j := 1) (by omega)
  have m2 := dMul_l (i := 1) (j := 2 * a) (by omega)
  have m3 := dMul_l (i := 2 * c) (j := v) (by omega)
  have m4 := dMul_r (i := 2 * c * v) (j := 1) (by omega)
  have m5 := dMul_l (i := u) (j := b) (by omega)
  have m6 := dMul_r (i := u * b) (j := 1) (by omega)
  have m7 := dMul_l (i := 1) (j := v) (by omega)
  have m8 := dMul_r (i := v) (j := 1) (by omega)
  have a2 : ¬ 2 * a = 0 := by omega
  refine ⟨t, s, ?_, tn ?_⟩
  · simp only [Int.mul_one, Int.one_mul] at m1 m2 m4 m6 m7 m8
    simp [F_behind, runF, s_behind, m1, m2, m3, m4, m5, m6, m7, m8, e1, e2, a2, a0]
  · intro z
    apply D0
    have h1 : g * (2 * c * v - u * b) = 0 := by rw [z, Int.mul_zero]
    have h2 : 2 * c * (2 * a) - b * b = 0 := by rw [hv, ← h1]; conv => lhs; rhs; lhs; rw [hu]
                                                grind
    grind
theorem whileGo_s {c : En → Option Bool} {b : En → Option Fl} {n : Nat} {s0 : Sl} {ρ0 : En} : whileGo c b (n + 1) (s0 :: ρ0) = (c (s0 :: ρ0)).bind fun k => match k with
    | true => (b (s0 :: ρ0)).bind fun r => match r with
      | .nx ρ2 => whileGo c b n ρ2
      | .rt v => some (.rt v)
    | false => some (.nx (s0 :: ρ0)) := rfl
abbrev dgc : En → Option Bool := fB (fC dNeNil (fUn (fV 1)))
abbrev dgb : En → Option Fl := sSeq (sSet 1 (fC F_with_lead (fCons (fV 1) (fNil))))
  (sSeq (sSet 5 (fIxL (fSq (fV 1)) (fK (.int 0))))
  (sSeq (sApp 2 (fIxL (fSq (fV 5)) (fK (.int 0))))
  (sSet 1 (fLst (fLc (fSq (fLst (fDrop (fUn (fV 1)) (fK (.int 1))))) (gN 4) (fYes) (fC F_behind (fCons (fV 4) (fCons (fV 5) (fNil)))) [4])))))
theorem diagonal_ok {a b c : Int} (ha : a.natAbs < 400000) (hb : b.natAbs < 1000000) (hc : c.natAbs < 400000) (a0 : a ≠ 0) (D0 : b * b - 4 * a * c ≠ 0) : ∃ t u, F_diagonal [tb2 (2 * a) b b (2 * c)] = some (.lst [.tup [.int (2 * a), .int 1], .tup [.int t, .int u]]) := by
  obtain ⟨t, u, e, t0⟩ := behind_ok ha hb (c := c) (by omega) a0 D0
  have l2 := lead2 (2 * a) 1 (.tup [.int b, .int 1]) (.tup [.int b, .int 1]) (.tup [.int (2 * c), .int 1]) (by omega)
  have l1 := lead1 t u t0
  refine ⟨t, u, ?_⟩
  have key : ∀ N : Nat, whileGo dgc dgb (N + 1 + 1 + 1) [.fz (tb2 (2 * a) b b (2 * c)), .fz (.lst [.lst [.tup [.int (2 * a), .int 1], .tup [.int b, .int 1]], .lst [.tup [.int b, .int 1], .tup [.int (2 * c), .int 1]]]), .ow [], .no, .no, .no] =
      some (.nx [.fz (tb2 (2 * a) b b (2 * c)), .fz (.lst []), .ow [.tup [.int (2 * a), .int 1], .tup [.int t, .int u]], .no, .no, .fz (.lst [.tup [.int t, .int u]])]) := fun N => by
    simp [dgc, dgb, whileGo_s, l2, l1, e]
  have w : sWhile dgc dgb [.fz (tb2 (2 * a) b b (2 * c)), .fz (.lst [.lst [.tup [.int (2 * a), .int 1], .tup [.int b, .int 1]], .lst [.tup [.int b, .int 1], .tup [.int (2 * c), .int 1]]]), .ow [], .no, .no, .no] =
      some (.nx [.fz (tb2 (2 * a) b b (2 * c)), .fz (.lst []), .ow [.tup [.int (2 * a), .int 1], .tup [.int t, .int u]], .no, .no, .fz (.lst [.tup [.int t, .int u]])]) := key 999997
  simp [F_diagonal, runF, s_diagonal, w]
theorem signature_ok {a b c : Int} (ha : a.natAbs < 400000) (hb : b.natAbs < 1000000) (hc : c.natAbs < 400000) (a0 : a ≠ 0) (D0 : b * b - 4 * a * c ≠ 0) : ∃ p q : Nat, F_signature_for [tb2 (2 * a) b b (2 * c)] = some (.tup [.int p, .int q]) := by
  obtain ⟨t, u, e⟩ := diagonal_ok ha hb hc a0 D0
  cases h1 : decide (0 < 2 * a) <;> cases h2 : decide (0 < t) <;> cases h3 : decide (2 * a < 0) <;> cases h4 : decide (t < 0) <;>
    exact ⟨_, _, by simp [F_signature_for, runF, s_signature_for, e, h1, h2, h3, h4]; exact ⟨rfl, rfl⟩⟩
end L3
set_option maxHeartbeats 4000000
namespace L3
open PySem L2 RZ
theorem kind_ok (p q : Nat) : ∃ s, F_kind_for [.tup [.int p, .int q], .int 2] = some (.str s) := by
  cases h1 : decide ((p : Int) + q < 2) <;> cases h2 : decide (q = 0) <;> cases h3 : decide (0 < p) <;>
    exact ⟨_, by simp [F_kind_for, runF, s_kind_for, h1, h2, h3]; rfl⟩
theorem str_ok {i : Int} (h : i.natAbs < 1000000) : ∃ s : Str, dStr [.int i] = some (.str s) ∧ s.length ≤ 1921 := by
  have h2 : i.natAbs.log2 < 1920 := by
    by_cases z : i.natAbs = 0
    · rw [z]; decide
    · have := (Nat.log2_lt z (k := 20)).mpr (by omega)
      omega
  refine ⟨_, if_pos h2, ?_⟩
  exact PyProof.Rows.int_text_len_1921 h2
theorem words_ok {a b c : Int} (ha : a.natAbs < 1000000) (hb : b.natAbs < 1000000) (hc : c.natAbs < 1000000) (x : Dat) (y : Dat) : ∃ s, i5_Form [.no, .fz (ti a b c), .fz x, .fz y, .no] = some (.str s) := by
  obtain ⟨s1, e1, l1⟩ := str_ok ha
  obtain ⟨s2, e2, l2⟩ := str_ok hb
  obtain ⟨s3, e3, l3⟩ := str_ok hc
  have j : ∃ s, dJoin " " [.str s1, .str s2, .str s3] = some (.str s) := by
    refine ⟨Txt.join " " [s1, s2, s3], ?_⟩
    show (if ([s1, s2, s3].map (·.length)).sum + [s1, s2, s3].length * (" " : Str).length ≤ 16777216 then some (Dat.str (Txt.join " " [s1, s2, s3])) else none) = _
    refine if_pos ?_
    have : (" " : Str).length = 1 := by decide +kernel
    simp [this]
    omega
  obtain ⟨s, j⟩ := j
  exact ⟨s, by simp [i5_Form, e1, e2, e3, j]⟩
theorem form_ok {a b c : Int} (ha : a.natAbs < 400000) (hb : b.natAbs < 1000000) (hc : c.natAbs < 400000) (a0 : a ≠ 0) (D0 : b * b - 4 * a * c ≠ 0) : F_Form [ti a b c] = some (.frm a b c) := by
  have e1 := check_ok (a := a) (b := b) (c := c) (by omega) (by omega) (by omega)
  have e2 := table_ok a b c
  obtain ⟨p, q, e3⟩ := signature_ok ha hb hc a0 D0
  obtain ⟨k, e4⟩ := kind_ok p q
  have e5 := det2 (2 * a) b b (2 * c) (by omega) (by omega) (by omega) (by omega)
  obtain ⟨s, e6⟩ := words_ok (a := a) (b := b) (c := c) (by omega) (by omega) (by omega) (tb2 (2 * a) b b (2 * c)) (.tup [.int p, .int q])
  show sInit i1_Form i2_Form i3_Form i4_Form i5_Form (ti a b c) = _
  simp [sInit, i1_Form, i2_Form, i3_Form, i4_Form, e1, e2, e3, e4, e5, e6, mkFrm]
end L3
set_option maxHeartbeats 4000000
namespace L3
open PySem L2 RZ
@[simp] theorem ev_sum2 {u v : Int} : dSum [.int u, .int v] = some (.int (u + v)) := by
  show some (Dat.int ([u, v].sum)) = _
  simp
@[simp] theorem ev_ixT0 {d : Dat} {ds : List Dat} : dIxT (.tup (d :: ds)) (.int 0) = some d := by
  show (ixN (ds.length + 1) 0).bind _ = _
  unfold ixN
  rw [if_pos (by decide), if_pos (by omega)]
  rfl
theorem joined_ok {p q r s : Int} (x y z w : Int) (hp : p.natAbs < 2 ^ 64) (hq : q.natAbs < 2 ^ 64) (hr : r.natAbs < 2 ^ 64) (hs : s.natAbs < 2 ^ 64) : F_joined_tables [tb2 p q r s, tb2 x y z w] = some (tb2 (p * x + q * z) (p * y + q * w) (r * x + s * z) (r * y + s * w)) := by
  have t : F_turned [tb2 x y z w] = some (tb2 x z y w) := by simp [F_turned, runF, s_turned]
  simp [F_joined_tables, runF, s_joined_tables, t, dMul_l hp, dMul_l hq, dMul_l hr, dMul_l hs]
theorem applied_ok {p q r s : Int} (x y : Int) (hp : p.natAbs < 2 ^ 64) (hq : q.natAbs < 2 ^ 64) (hr : r.natAbs < 2 ^ 64) (hs : s.natAbs < 2 ^ 64) : F_applied [tb2 p q r s, .tup [.int x, .int y]] = some (.tup [.int (p * x + q * y), .int (r * x + s * y)]) := by
  simp [F_applied, runF, s_applied, dMul_l hp, dMul_l hq, dMul_l hr, dMul_l hs]
theorem unit_ok : F_unit_table [.int 2] = some (tb2 1 0 0 1) := by rfl
theorem dMod2 (i : Int) : dMod (.int i) (.int 2) = some (.int (i.fmod 2)) := dMod_ok (by decide)
theorem cof00 (p q r s : Int) : F_cofactor [tb2 p q r s, .int 0, .int 0] = some (.int s) := by
  simp [F_cofactor, runF, s_cofactor, dMod2, det1, mul1]
theorem cof11 (p q r s : Int) : F_cofactor [tb2 p q r s, .int 1, .int 1] = some (.int p) := by
  simp [F_cofactor, runF, s_cofactor, dMod2, det1, mul1]
theorem cof01 (p q r s : Int) : F_cofactor [tb2 p q r s, .int 0, .int 1] = some (.int (-r)) := by
  simp [F_cofactor, runF, s_cofactor, dMod2, det1, mulm1]
theorem cof10 (p q r s : Int) : F_cofactor [tb2 p q r s, .int 1, .int 0] = some (.int (-q)) := by
  simp [F_cofactor, runF, s_cofactor, dMod2, det1, mulm1]
theorem inverse_ok {p q r s : Int} (hp : p.natAbs < 2 ^ 40) (hq : q.natAbs < 2 ^ 40) (hr : r.natAbs < 2 ^ 40) (hs : s.natAbs < 2 ^ 40) (h1 : p * s - q * r = 1) : F_inverse_of [tb2 p q r s] = some (tb2 s (-q) (-r) p) := by
  have e := det2 p q r s hp hq hr hs
  rw [h1] at e
  simp [F_inverse_of, runF, s_inverse_of, e, cof00, cof01, cof10, cof11, mul1]
end L3
set_option maxHeartbeats 4000000
namespace L3
open PySem L2 RZ
/-! ### natives: reduced forms, steps -/
def D3 (a b c : Int) : Int := b * b - 4 * a * c
def isRed (D a b c : Int) : Bool :=
  if D < 0 then decide (-a ≤ b) && (decide (b ≤ a) && (decide (a ≤ c) && (decide (0 ≤ b) || (!decide (b = -a) && !decide (a = c)))))
  else !(decide (b ≤ 0) || decide (D < b * b)) && (decide (D < (2 * (a.natAbs : Int) + b) ^ 2) && (decide (2 * (a.natAbs : Int) - b < 0) || decide ((2 * (a.natAbs : Int) - b) * (2 * (a.natAbs : Int) - b) < D)))
theorem isRed_ok {a b c : Int} (ha : a.natAbs < 1000000) (hb : b.natAbs < 1000000) (hc : c.natAbs < 1000000) : F_is_reduced_form [.frm a b c] = some (.bl (isRed (D3 a b c) a b c)) := by
  have e1 := disc_for a b c ha hb
  have e2 := dMul_l (i := b) (j := b) (by omega)
  have e3 := dMul_l (i := 2) (j := (a.natAbs : Int)) (by decide)
  have e4 := dMul_l (i := 2 * (a.natAbs : Int) - b) (j := 2 * (a.natAbs : Int) - b) (by omega)
  have e5 : dPow (.int (2 * (a.natAbs : Int) + b)) (.int 2) = some (.int ((2 * (a.natAbs : Int) + b) ^ 2)) := by
    exact if_pos (show 0 ≤ (2 : Int) ∧ (2 : Int) ≤ 1000000 ∧ (2 * (a.natAbs : Int) + b).natAbs < 2 ^ 64 from ⟨by decide, by decide, by omega⟩)
  unfold isRed
  by_cases hD : D3 a b c < 0
  · rw [if_pos hD]
    have hD' : b * b - 4 * a * c < 0 := hD
    simp [F_is_reduced_form, runF, s_is_reduced_form, coeffs_ok, e1, hD']
    cases h1 : decide (-a ≤ b) <;> cases h2 : decide (b ≤ a) <;> cases h3 : decide (a ≤ c) <;> cases h4 : decide (0 ≤ b) <;> cases h5 : decide (b = -a) <;> simp [h1, h2, h3, h4, h5]
  · rw [if_neg hD]
    unfold D3 at hD ⊢
    generalize b * b - 4 * a * c = D at e1 hD ⊢
    by_cases h1 : b ≤ 0
    · simp [F_is_reduced_form, runF, s_is_reduced_form, coeffs_ok, e1, hD, e2, h1]
    · by_cases h2 : D < b * b
      · simp [F_is_reduced_form, runF, s_is_reduced_form, coeffs_ok, e1, hD, e2, h1, h2]
      · by_cases h3 : D < (2 * (a.natAbs : Int) + b) ^ 2
        · by_cases h4 : 2 * (a.natAbs : Int) - b < 0
          · simp [F_is_reduced_form, runF, s_is_reduced_form, coeffs_ok, e1, hD, e2, e3, e4, e5, h1, h2, h3, h4]
          · simp [F_is_reduced_form, runF, s_is_reduced_form, coeffs_ok, e1, hD, e2, e3, e4, e5, h1, h2, h3, h4]
        · simp [F_is_reduced_form, runF, s_is_reduced_form, coeffs_ok, e1, hD, e2, e3, e4, e5, h1, h2, h3]
/-- what the natives ask of a form -/
def okF (a b c : Int) : Bool := Nat.blt a.natAbs 400000 && (Nat.blt b.natAbs 1000000 && (Nat.blt c.natAbs 400000 && (!decide (a = 0) && (!decide (c = 0) && !decide (b * b - 4 * a * c = 0)))))
structure OkF (a b c : Int) : Prop where
  ha : a.natAbs < 400000
  hb : b.natAbs < 1000000
  hc : c.natAbs < 400000
  a0 : a ≠ 0
  c0 : c ≠ 0
  D0 : b * b - 4 * a * c ≠ 0
theorem okF_ok {a b c : Int} (h : okF a b c = true) : OkF a b c := by
  unfold okF at h
  simp only [Bool.and_eq_true, Bool.not_eq_true', decide_eq_false_iff_not] at h
  obtain ⟨h1, h2, h3, h4, h5, h6⟩ := h
  exact ⟨Nat.le_of_ble_eq_true h1, Nat.le_of_ble_eq_true h2, Nat.le_of_ble_eq_true h3, h4, h5, h6⟩
theorem OkF.form {a b c : Int} (h : OkF a b c) : F_Form [ti a b c] = some (.frm a b c) := form_ok h.ha h.hb h.hc h.a0 h.D0
/-- the greatest e, the k of a step -/
def stE (D b c : Int) : Int :=
  let m : Int := if decide (0 < D) && decide (c * c < D) then (rt D.toNat : Nat) else (c.natAbs : Nat)
  m - (m + b).fmod (2 * (c.natAbs : Int))
def stK (e b c : Int) : Int := (e + b).fdiv (2 * c)
theorem stepped_ok {a b c D e k : Int} (h : OkF a b c) (hD : D = b * b - 4 * a * c) (hD' : D < 640) (he : e = stE D b c) (hk : k = stK e b c) (hkb : k.natAbs < 1000000) (ho : OkF c e (a - b * k + c * k * k)) :
    F_stepped [.frm a b c] = some (.tup [.frm c e (a - b * k + c * k * k), tb2 0 (-1) 1 k]) := by
  have e1 := disc_for a b c (by have := h.ha; omega) h.hb
  rw [← hD] at e1
  have c0 := h.c0
  have hc := h.hc
  have hbb := h.hb
  have m1 := dMul_l (i := c) (j := c) (by omega)
  have m2 := dMul_l (i := 2) (j := (c.natAbs : Int)) (by decide)
  have m3 := dMul_l (i := 2) (j := c) (by decide)
  have m4 := dMul_l (i := b) (j := k) (by omega)
  have m5 := dMul_l (i := c) (j := k) (by omega)
  have cn : 2 * (c.natAbs : Int) ≠ 0 := by omega
  have c2 : (2 * c) ≠ 0 := by omega
  have m6 := dMul_r (i := c * k) (j := k) (by omega)
  have d1 := fun x : Int => dMod_ok (i := x) cn
  have d2 := fun x : Int => dDiv_ok (i := x) c2 (by omega)
  have f := ho.form
  have r : 0 < D → F_root_of [.int D] = some (.int (rt D.toNat : Nat)) := fun z => by
    have := root_ok (v := D.toNat) (by omega)
    rwa [Int.toNat_of_nonneg (by omega)] at this
  unfold stK at hk
  unfold stE at he
  by_cases z1 : 0 < D
  · by_cases z2 : c * c < D
    · simp only [z1, z2, decide_true, Bool.and_true, if_true] at he
      simp [F_stepped, runF, s_stepped, coeffs_ok, e1, z1, z2, m1, r z1, m2, d1, ← he, m3, d2, ← hk, m4, m5, m6, f]
    · simp only [z1, z2, decide_true, decide_false, Bool.and_false, Bool.false_eq_true, if_false] at he
      simp [F_stepped, runF, s_stepped, coeffs_ok, e1, z1, z2, m1, m2, d1, ← he, m3, d2, ← hk, m4, m5, m6, f]
  · simp only [z1, decide_false, Bool.false_and, Bool.false_eq_true, if_false] at he
    simp [F_stepped, runF, s_stepped, coeffs_ok, e1, z1, m1, m2, d1, ← he, m3, d2, ← hk, m4, m5, m6, f]
end L3
set_option maxHeartbeats 4000000
namespace L3
open PySem L2 RZ
/-! ### natives: reduction -/
structure Fm where
  a : Int
  b : Int
  c : Int
structure Mt where
  p : Int
  q : Int
  r : Int
  s : Int
abbrev Fm.d (f : Fm) : Dat := .frm f.a f.b f.c
abbrev Mt.d (M : Mt) : Dat := tb2 M.p M.q M.r M.s
abbrev Fm.ok (f : Fm) : Prop := OkF f.a f.b f.c
def Fm.D (f : Fm) : Int := f.b * f.b - 4 * f.a * f.c
def frN {α : Type} (n : Nat) (k : Nat → α) : α := match n with
  | 0 => k 0
  | m + 1 => k (m + 1)
theorem frN_eq {α : Type} (n : Nat) (k : Nat → α) : frN n k = k n := by cases n <;> rfl
def nz {α : Type} (i : Int) (k : Int → α) : α := match i with
  | .ofNat n => frN n fun m => k (.ofNat m)
  | .negSucc n => frN n fun m => k (.negSucc m)
theorem nz_eq {α : Type} (i : Int) (k : Int → α) : nz i k = k i := by
  cases i with
  | ofNat n => exact frN_eq n fun m => k (.ofNat m)
  | negSucc n => exact frN_eq n fun m => k (.negSucc m)
/-- a step's e: twice c k, less b -/
theorem st_e {D b c : Int} (c0 : c ≠ 0) : stE D b c = 2 * c * stK (stE D b c) b c - b := by
  obtain ⟨q, hq⟩ : ∃ q, stE D b c + b = 2 * c * q := by
    unfold stE
    generalize (if (decide (0 < D) && decide (c * c < D)) = true then ((rt D.toNat : Nat) : Int) else (c.natAbs : Nat)) = m
    show ∃ q, m - (m + b).fmod (2 * (c.natAbs : Int)) + b = 2 * c * q
    have h := Int.fmod_add_mul_fdiv (m + b) (2 * (c.natAbs : Int))
    rcases Int.natAbs_eq c with z | z
    · exact ⟨(m + b).fdiv (2 * (c.natAbs : Int)), by rw [← z] at h ⊢; omega⟩
    · refine ⟨-(m + b).fdiv (2 * (c.natAbs : Int)), ?_⟩
      have : (c.natAbs : Int) = -c := by omega
      rw [this] at h ⊢
      generalize (m + b).fdiv (2 * -c) = Q at h ⊢
      generalize (m + b).fmod (2 * -c) = R at h ⊢
      grind
  have k : stK (stE D b c) b c = q := by
    unfold stK
    rw [hq, Int.mul_fdiv_cancel_left _ (by omega)]
  rw [k]; omega
def stepN (D : Int) (f : Fm) : Option (Fm × Int) :=
  nz (stE D f.b f.c) fun e => nz (stK e f.b f.c) fun k => nz (f.a - f.b * k + f.c * k * k) fun c' =>
    match okF f.c e c' && Nat.blt k.natAbs 1000000 with
    | true => some (⟨f.c, e, c'⟩, k)
    | false => none
theorem stepN_ok {D : Int} {f g : Fm} {k : Int} (h : stepN D f = some (g, k)) (hf : f.ok) (hD : D = f.D) (hD' : D < 640) : g.ok ∧ k.natAbs < 1000000 ∧ F_stepped [f.d] = some (.tup [g.d, tb2 0 (-1) 1 k]) ∧ g = ⟨f.c, stE D f.b f.c, f.a - f.b * k + f.c * k * k⟩ ∧ k = stK (stE D f.b f.c) f.b f.c := by
  unfold stepN at h
  simp only [nz_eq] at h
  split at h
  · rename_i z
    rw [Bool.and_eq_true] at z
    cases h
    have o := okF_ok z.1
    have kb := Nat.le_of_ble_eq_true z.2
    exact ⟨o, kb, stepped_ok hf hD hD' rfl rfl kb o, rfl, rfl⟩
  · cases h
def smM (M : Mt) : Bool := Nat.blt M.p.natAbs 1099511627776 && (Nat.blt M.q.natAbs 1099511627776 && (Nat.blt M.r.natAbs 1099511627776 && Nat.blt M.s.natAbs 1099511627776))
structure SmM (M : Mt) : Prop where
  hp : M.p.natAbs < 2 ^ 40
  hq : M.q.natAbs < 2 ^ 40
  hr : M.r.natAbs < 2 ^ 40
  hs : M.s.natAbs < 2 ^ 40
theorem smM_ok {M : Mt} (h : smM M = true) : SmM M := by
  unfold smM at h
  simp only [Bool.and_eq_true] at h
  exact ⟨Nat.le_of_ble_eq_true h.1, Nat.le_of_ble_eq_true h.2.1, Nat.le_of_ble_eq_true h.2.2.1, Nat.le_of_ble_eq_true h.2.2.2⟩
def Mt.mul (M N : Mt) : Mt := ⟨M.p * N.p + M.q * N.r, M.p * N.q + M.q * N.s, M.r * N.p + M.s * N.r, M.r * N.q + M.s * N.s⟩
theorem Mt.mul_ok {M : Mt} (N : Mt) (h : SmM M) : F_joined_tables [M.d, N.d] = some (M.mul N).d := joined_ok _ _ _ _ (Nat.lt_trans h.hp (by decide)) (Nat.lt_trans h.hq (by decide)) (Nat.lt_trans h.hr (by decide)) (Nat.lt_trans h.hs (by decide))
/-- a matrix in normal form -/
def mnz {α : Type} (M : Mt) (k : Mt → α) : α := nz M.p fun p => nz M.q fun q => nz M.r fun r => nz M.s fun s => k ⟨p, q, r, s⟩
theorem mnz_eq {α : Type} (M : Mt) (k : Mt → α) : mnz M k = k M := by
  unfold mnz
  simp only [nz_eq]
def Mt.st (k : Int) : Mt := ⟨0, -1, 1, k⟩
def Mt.one : Mt := ⟨1, 0, 0, 1⟩
def redN (D : Int) : Nat → Fm → Mt → Option (Fm × Mt)
  | 0, _, _ => none
  | n + 1, f, M => match isRed D f.a f.b f.c with
    | true => some (f, M)
    | false => match stepN D f with
      | some (g, k) => mnz (M.mul (.st k)) fun M' => match smM M' with
        | true => redN D n g M'
        | false => none
      | none => none
abbrev rwc : En → Option Bool := fNot (fB (fC F_is_reduced_form (fCons (fV 0) (fNil))))
abbrev rwb : En → Option Fl := sSeq (sAsg (fC F_stepped (fCons (fV 0) (fNil))) (gT (gsC (gN 0) (gsC (gN 2) (gsN)))))
  (sSet 1 (fC F_joined_tables (fCons (fV 1) (fCons (fV 2) (fNil)))))
theorem isRed_okF {f : Fm} (h : f.ok) : F_is_reduced_form [f.d] = some (.bl (isRed f.D f.a f.b f.c)) := isRed_ok (by have := h.ha; omega) h.hb (by have := h.hc; omega)
theorem mt_st (k : Int) : tb2 0 (-1) 1 k = (Mt.st k).d := rfl
theorem mt_one : tb2 1 0 0 1 = Mt.one.d := rfl
theorem redN_go {D : Int} (hD' : D < 640) : ∀ (n : Nat) (f g : Fm) (M M' : Mt) (s2 : Sl) (N : Nat), redN D n f M = some (g, M') → f.ok → D = f.D → SmM M → g.ok ∧ SmM M' ∧ isRed D g.a g.b g.c = true ∧ D = g.D ∧ ∃ s2', whileGo rwc rwb (N + n) [.fz f.d, .fz M.d, s2] = some (.nx [.fz g.d, .fz M'.d, s2'])
  | 0, _, _, _, _, _, _, h, _, _, _ => by cases h
  | n + 1, f, g, M, M', s2, N, h, hf, hD, hM => by
    have e1 := isRed_okF hf
    rw [← hD] at e1
    unfold redN at h
    split at h
    · rename_i z
      cases h
      refine ⟨hf, hM, z, hD, s2, ?_⟩
      show whileGo rwc rwb (N + n + 1) _ = _
      rw [z] at e1
      simp [whileGo_s, rwc, e1]
    · rename_i z
      rw [z] at e1
      split at h
      · rename_i g1 k1 z1
        rw [mnz_eq] at h
        split at h
        · rename_i z2
          obtain ⟨o1, kb, e2, hg, hk⟩ := stepN_ok z1 hf hD hD'
          have e3 := Mt.mul_ok (.st k1) hM
          rw [← mt_st] at e3
          have hD1 : D = g1.D := by
            rw [hD, hg]
            show f.b * f.b - 4 * f.a * f.c = stE D f.b f.c * stE D f.b f.c - 4 * f.c * (f.a - f.b * k1 + f.c * k1 * k1)
            have := st_e (D := D) (b := f.b) hf.c0
            rw [← hk] at this
            rw [this]
            grind
          obtain ⟨c1, c2, c3, c4, s3, e4⟩ := redN_go hD' n g1 g _ M' (.fz (tb2 0 (-1) 1 k1)) N h o1 hD1 (smM_ok z2)
          refine ⟨c1, c2, c3, c4, s3, ?_⟩
          show whileGo rwc rwb (N + n + 1) _ = _
          simp [whileGo_s, rwc, rwb, e1, e2, e3, e4]
        · cases h
      · cases h
end L3
set_option maxHeartbeats 4000000
namespace L3
open PySem L2 RZ
/-! ### natives: rings -/
theorem smM_one : SmM Mt.one := ⟨by decide, by decide, by decide, by decide⟩
theorem reduced_ok {D : Int} (hD' : D < 640) {f g : Fm} {M' : Mt} (h : redN D 60 f .one = some (g, M')) (hf : f.ok) (hD : D = f.D) : g.ok ∧ SmM M' ∧ isRed D g.a g.b g.c = true ∧ D = g.D ∧ F_reduced_with [f.d] = some (.tup [g.d, M'.d]) := by
  obtain ⟨c1, c2, c3, c4, s, e⟩ := redN_go hD' 60 f g .one M' .no 999940 h hf hD smM_one
  have w : sWhile rwc rwb [.fz f.d, .fz Mt.one.d, .no] = some (.nx [.fz g.d, .fz M'.d, s]) := e
  refine ⟨c1, c2, c3, c4, ?_⟩
  simp [F_reduced_with, runF, s_reduced_with, unit_ok, mt_one, w]
def Fm.eq (f g : Fm) : Bool := decide (f.a = g.a ∧ f.b = g.b ∧ f.c = g.c)
theorem Fm.eq_ok {f g : Fm} (h : f.eq g = true) : f = g := by
  have := of_decide_eq_true h
  cases f; cases g; simp only [Fm.mk.injEq]; exact this
def ringN (D : Int) (f0 : Fm) : Nat → Fm → Int → Mt → Option (List (Fm × Mt))
  | 0, _, _, _ => none
  | n + 1, g, k, M => match g.eq f0 with
    | true => some []
    | false => mnz (M.mul (.st k)) fun M' => match smM M' with
      | true => match stepN D g with
        | some (g', k') => match ringN D f0 n g' k' M' with
          | some R => some ((g, M') :: R)
          | none => none
        | none => none
      | false => none
def rngN (D : Int) (f : Fm) : Option (List (Fm × Mt)) := match decide (D < 0) with
  | true => some [(f, .one)]
  | false => match stepN D f with
    | some (g, k) => match ringN D f 40 g k .one with
      | some R => some ((f, .one) :: R)
      | none => none
    | none => none
abbrev pairD (x : Fm × Mt) : Dat := .tup [x.1.d, x.2.d]
abbrev rfc : En → Option Bool := fB (f2 dNeF (fV 3) (fV 0))
abbrev rfb : En → Option Fl := sSeq (sSet 2 (fC F_joined_tables (fCons (fV 2) (fCons (fV 4) (fNil)))))
  (sSeq (sApp 1 (fTup (fCons (fV 3) (fCons (fV 2) (fNil)))))
  (sAsg (fC F_stepped (fCons (fV 3) (fNil))) (gT (gsC (gN 3) (gsC (gN 4) (gsN))))))
theorem step_D {D : Int} {f g : Fm} {k : Int} (hf : f.ok) (hD : D = f.D) (hg : g = ⟨f.c, stE D f.b f.c, f.a - f.b * k + f.c * k * k⟩) (hk : k = stK (stE D f.b f.c) f.b f.c) : D = g.D := by
  have := st_e (D := D) (b := f.b) hf.c0
  rw [← hk] at this
  rw [hg]
  show D = stE D f.b f.c * stE D f.b f.c - 4 * f.c * (f.a - f.b * k + f.c * k * k)
  rw [this, hD]
  show f.b * f.b - 4 * f.a * f.c = _
  grind
theorem ringN_go {D : Int} (hD' : D < 640) (f0 : Fm) : ∀ (n : Nat) (g : Fm) (k : Int) (M : Mt) (R : List (Fm × Mt)) (acc : List Dat) (N : Nat), ringN D f0 n g k M = some R → g.ok → D = g.D → SmM M → acc.length + n < 1000 → R.length < n ∧ (∀ x ∈ R, x.1.ok ∧ D = x.1.D ∧ SmM x.2) ∧
    ∃ s2 s3 s4, whileGo rfc rfb (N + n) [.fz f0.d, .ow acc, .fz M.d, .fz g.d, .fz (Mt.st k).d] = some (.nx [.fz f0.d, .ow (acc ++ R.map pairD), s2, s3, s4])
  | 0, _, _, _, _, _, _, h, _, _, _, _ => by cases h
  | n + 1, g, k, M, R, acc, N, h, hg, hD, hM, hl => by
    unfold ringN at h
    split at h
    · rename_i z
      cases h
      have z' : (g.a = f0.a ∧ g.b = f0.b ∧ g.c = f0.c) := of_decide_eq_true z
      refine ⟨Nat.succ_pos _, by simp, .fz M.d, .fz g.d, .fz (Mt.st k).d, ?_⟩
      show whileGo rfc rfb (N + n + 1) _ = _
      simp [whileGo_s, rfc, z']
    · rename_i z
      have z' : ¬ (g.a = f0.a ∧ g.b = f0.b ∧ g.c = f0.c) := of_decide_eq_false z
      rw [mnz_eq] at h
      split at h
      · rename_i z2
        split at h
        · rename_i g1 k1 z3
          split at h
          · rename_i R1 z4
            cases h
            obtain ⟨o1, kb, e2, hg1, hk1⟩ := stepN_ok z3 hg hD hD'
            have e3 := Mt.mul_ok (.st k) hM
            have hD1 := step_D hg hD hg1 hk1
            have sm := smM_ok z2
            obtain ⟨c1, c2, s2, s3, s4, e4⟩ := ringN_go hD' f0 n g1 k1 _ R1 (acc ++ [pairD (g, M.mul (.st k))]) N z4 o1 hD1 sm (by simp; omega)
            refine ⟨by simp; omega, ?_, s2, s3, s4, ?_⟩
            · intro x hx
              rcases List.mem_cons.mp hx with q | q
              · subst q; exact ⟨hg, hD, sm⟩
              · exact c2 x q
            · show whileGo rfc rfb (N + n + 1) _ = _
              rw [mt_st] at e2
              have la : acc.length < 100000 := by omega
              rw [List.append_assoc] at e4
              simp [whileGo_s, rfc, rfb, z', e3, la, e2, e4]
          · cases h
        · cases h
      · cases h
theorem ring_ok {D : Int} (hD' : D < 640) {f : Fm} {R : List (Fm × Mt)} (h : rngN D f = some R) (hf : f.ok) (hD : D = f.D) : R.length ≤ 41 ∧ (∀ x ∈ R, x.1.ok ∧ D = x.1.D ∧ SmM x.2) ∧ F_ring_from [f.d] = some (.lst (R.map pairD)) := by
  have e1 := disc_for f.a f.b f.c (by have := hf.ha; omega) hf.hb
  have e1' : F_discriminant_for [f.d] = some (.int D) := by rw [hD]; exact e1
  unfold rngN at h
  split at h
  · rename_i z
    cases h
    have z' : D < 0 := of_decide_eq_true z
    refine ⟨by simp, ?_, ?_⟩
    · intro x hx
      rw [List.mem_singleton] at hx
      subst hx; exact ⟨hf, hD, smM_one⟩
    · simp [F_ring_from, runF, s_ring_from, unit_ok, mt_one, e1', z']
  · rename_i z
    have z' : ¬ D < 0 := of_decide_eq_false z
    split at h
    · rename_i g k z1
      split at h
      · rename_i R1 z2
        cases h
        obtain ⟨o1, kb, e2, hg1, hk1⟩ := stepN_ok z1 hf hD hD'
        have hD1 := step_D hf hD hg1 hk1
        obtain ⟨c1, c2, s2, s3, s4, e4⟩ := ringN_go hD' f 40 g k .one R1 [pairD (f, .one)] 999960 z2 o1 hD1 smM_one (by simp)
        have w : sWhile rfc rfb [.fz f.d, .ow [pairD (f, .one)], .fz Mt.one.d, .fz g.d, .fz (Mt.st k).d] = some (.nx [.fz f.d, .ow ([pairD (f, .one)] ++ R1.map pairD), s2, s3, s4]) := e4
        rw [mt_st] at e2
        refine ⟨by simp; omega, ?_, ?_⟩
        · intro x hx
          rcases List.mem_cons.mp hx with q | q
          · subst q; exact ⟨hf, hD, smM_one⟩
          · exact c2 x q
        · simp [F_ring_from, runF, s_ring_from, unit_ok, mt_one, e1', z', e2, w]
      · cases h
    · cases h
end L3
set_option maxHeartbeats 4000000
namespace L3
open PySem L2 RZ
/-! ### natives: rings in order, leading forms, changes -/
theorem lc_map {α : Type} (toD : α → Dat) (p : α → Bool) (g : α → Dat) {gt : Dat → En → Option En} {tt : En → Option Bool} {te : En → Option Dat} {ρ : En} : ∀ xs : List α, (∀ x ∈ xs, ∃ ρ1, gt (toD x) ρ = some ρ1 ∧ tt ρ1 = some (p x) ∧ (p x = true → te ρ1 = some (g x))) → lcGo gt tt te ρ (xs.map toD) = some ((xs.filter p).map g)
  | [], _ => rfl
  | x :: xs, h => by
    obtain ⟨ρ1, e1, e2, e3⟩ := h x (List.mem_cons_self ..)
    have ih := lc_map toD p g xs fun y hy => h y (List.mem_cons_of_mem _ hy)
    show (gt (toD x) ρ).bind _ = _
    rw [e1]
    show (tt ρ1).bind _ = _
    rw [e2]
    cases q : p x with
    | true =>
      show (te ρ1).bind _ = _
      rw [e3 q]
      show (lcGo gt tt te ρ (xs.map toD)).bind _ = _
      rw [ih, List.filter_cons_of_pos q]
      rfl
    | false =>
      show lcGo gt tt te ρ (xs.map toD) = _
      rw [ih, List.filter_cons_of_neg (by rw [q]; decide)]
theorem lc_all {α : Type} (toD : α → Dat) (g : α → Dat) {gt : Dat → En → Option En} {te : En → Option Dat} {ρ : En} (xs : List α) (h : ∀ x ∈ xs, ∃ s0 ρ1, gt (toD x) ρ = some (s0 :: ρ1) ∧ te (s0 :: ρ1) = some (g x)) : lcGo gt fYes te ρ (xs.map toD) = some (xs.map g) := by
  have := lc_map toD (fun _ => true) g (gt := gt) (tt := fYes) (te := te) (ρ := ρ) xs fun x hx => by
    obtain ⟨s0, ρ1, e1, e2⟩ := h x hx
    exact ⟨s0 :: ρ1, e1, rfl, fun _ => e2⟩
  rw [this, List.filter_eq_self.mpr fun _ _ => rfl]
def tl (f : Fm) : List Int := [f.a, f.b, f.c]
theorem tl_d (f : Fm) : ti f.a f.b f.c = tupI (tl f) := rfl
/-- the place of the leading form in a ring -/
def spotN (R : List (Fm × Mt)) : Option Nat := match R.map fun x => tl x.1 with
  | [] => none
  | t :: ts => idxL (leastL t ts) (t :: ts)
def ringOfN (D : Int) (f : Fm) : Option (List Fm) := match redN D 60 f .one with
  | some (g, _) => match rngN D g with
    | some R => match spotN R with
      | some j => some ((R.drop j ++ R.take j).map (·.1))
      | none => none
    | none => none
  | none => none
theorem ring_of_ok {D : Int} (hD' : D < 640) {f : Fm} {L : List Fm} (h : ringOfN D f = some L) (hf : f.ok) (hD : D = f.D) : L.length ≤ 41 ∧ (∀ x ∈ L, x.ok ∧ D = x.D) ∧ F_ring_of [f.d] = some (.lst (L.map Fm.d)) := by
  unfold ringOfN at h
  split at h
  · rename_i g M' z1
    obtain ⟨o1, sM, _, hDg, e1⟩ := reduced_ok hD' z1 hf hD
    split at h
    · rename_i R z2
      obtain ⟨l1, all, e2⟩ := ring_ok hD' z2 o1 hDg
      split at h
      · rename_i j z3
        cases h
        have mem : ∀ x ∈ R.drop j ++ R.take j, x ∈ R := fun x hx => (List.mem_append.mp hx).elim (List.mem_of_mem_drop ·) (List.mem_of_mem_take ·)
        have ll : (R.drop j ++ R.take j).length = R.length := by simp; omega
        refine ⟨by rw [List.length_map, ll]; exact l1, fun x hx => ?_, ?_⟩
        · obtain ⟨y, hy, rfl⟩ := List.mem_map.mp hx
          exact ⟨(all y (mem y hy)).1, (all y (mem y hy)).2.1⟩
        have c1 : lcGo (gT (gsC (gN 2) (gsC (gN 3) gsN))) fYes (fV 2) [.fz f.d, .no, .no, .no, .no, .no] (R.map pairD) = some (R.map fun x => x.1.d) := by
          refine lc_all pairD (fun x => x.1.d) R fun x _ => ⟨.fz f.d, [.no, .fz x.1.d, .fz x.2.d, .no, .no], ?_, ?_⟩ <;> simp
        have c2 : ∀ s3, lcGo (gN 2) fYes (fProp P_coefficients (fV 2)) [.fz f.d, .fz (.lst (R.map fun x => x.1.d)), .no, s3, .no, .no] (R.map fun x => x.1.d) = some ((R.map fun x => tl x.1).map tupI) := by
          intro s3
          rw [List.map_map]
          refine lc_all (fun x => x.1.d) (fun x => tupI (tl x.1)) R fun x _ => ⟨.fz f.d, [.fz (.lst (R.map fun x => x.1.d)), .fz x.1.d, s3, .no, .no], ?_, ?_⟩
          · simp
          · simp [coeffs_ok]; rfl
        have l2 : (R.map pairD).length ≤ 100000 := by rw [List.length_map]; omega
        have l3 : (R.map fun x => x.1.d).length ≤ 100000 := by rw [List.length_map]; omega
        have hj : ∃ t ts, (R.map fun x => tl x.1) = t :: ts ∧ idxL (leastL t ts) (t :: ts) = some j := by
          unfold spotN at z3
          split at z3
          · cases z3
          · rename_i t ts q
            exact ⟨t, ts, q, z3⟩
        obtain ⟨t, ts, hR, hi⟩ := hj
        have e3 : dMinT ((R.map fun x => tl x.1).map tupI) = some (tupI (leastL t ts)) := by
          unfold dMinT
          rw [tupsOf_tups, hR]
          rfl
        have e4 : dIndex ((R.map fun x => tl x.1).map tupI) (tupI (leastL t ts)) = some (.int (j : Nat)) := by
          unfold dIndex
          rw [tupsOf_tups]
          show (tupOfI (tupI (leastL t ts))).bind _ = _
          have : tupOfI (tupI (leastL t ts)) = some (leastL t ts) := intsOf_ints _
          rw [this, hR]
          show (idxL (leastL t ts) (t :: ts)).bind _ = _
          rw [hi]
          rfl
        have l4 : ((R.map fun x => x.1.d).drop j).length + ((R.map fun x => x.1.d).take j).length ≤ 100000 := by simp; omega
        have e5 : ((R.drop j ++ R.take j).map (·.1)).map Fm.d = (R.map fun x => x.1.d).drop j ++ (R.map fun x => x.1.d).take j := by
          rw [List.map_map, List.map_append, List.map_drop, List.map_take]; rfl
        have c2' := c2 .no
        rw [e5]
        generalize (R.map fun x => x.1.d) = Ds at c1 c2' l3 l4 ⊢
        generalize (R.map fun x => tl x.1).map tupI = Ts at c2' e3 e4
        generalize R.map pairD = Ps at e2 c1 l2
        rw [List.length_drop, List.length_take] at l4
        simp [F_ring_of, runF, s_ring_of, e1, e2, l2, c1, l3, c2', e3, e4, l4]
      · cases h
    · cases h
  · cases h
def leadN (D : Int) (f : Fm) : Option Fm := match ringOfN D f with
  | some (g :: _) => some g
  | _ => none
theorem lead_ok {D : Int} (hD' : D < 640) {f g : Fm} (h : leadN D f = some g) (hf : f.ok) (hD : D = f.D) : g.ok ∧ D = g.D ∧ F_lead_of [f.d] = some g.d := by
  unfold leadN at h
  split at h
  · rename_i g1 L z
    cases h
    obtain ⟨_, all, e⟩ := ring_of_ok hD' z hf hD
    obtain ⟨o, d⟩ := all g (List.mem_cons_self ..)
    refine ⟨o, d, ?_⟩
    simp [F_lead_of, runF, s_lead_of, e]
  · cases h
/-! ### a change from one form to another -/
def Mt.det (M : Mt) : Int := M.p * M.s - M.q * M.r
def Mt.inv (M : Mt) : Mt := ⟨M.s, -M.q, -M.r, M.p⟩
def findN (g : Fm) : List (Fm × Mt) → Option Mt
  | [] => none
  | x :: R => match x.1.eq g with
    | true => some x.2
    | false => findN g R
/-- some none: no change -/
def chN (D : Int) (f g : Fm) : Option (Option Mt) := match redN D 60 f .one with
  | some (near, A) => match redN D 60 g .one with
    | some (goal, L) => match rngN D near with
      | some R => match findN goal R with
        | some B => match smM (A.mul B) && decide (L.det = 1) with
          | true => some (some ((A.mul B).mul L.inv))
          | false => none
        | none => some none
      | none => none
    | none => none
  | none => none
abbrev ctb : En → Option Fl := sIf (fB (f2 dEqF (fV 6) (fV 4))) (sRet (fC F_joined_tables (fCons (fC F_joined_tables (fCons (fV 3) (fCons (fV 7) (fNil)))) (fCons (fC F_inverse_of (fCons (fV 5) (fNil))) (fNil))))) (sNext)
theorem find_go {s0 s1 s2 : Sl} {A L : Mt} {g : Fm} (hA : SmM A) (hL : SmM L) : ∀ (R : List (Fm × Mt)) (s6 s7 : Sl), (∀ B, findN g R = some B → smM (A.mul B) = true ∧ L.det = 1) →
    ∃ s6' s7', forGo (gT (gsC (gN 6) (gsC (gN 7) gsN))) ctb (R.map pairD) [s0, s1, s2, .fz A.d, .fz g.d, .fz L.d, s6, s7] = match findN g R with
      | some B => some (.rt ((A.mul B).mul L.inv).d)
      | none => some (.nx [s0, s1, s2, .fz A.d, .fz g.d, .fz L.d, s6', s7'])
  | [], s6, s7, _ => ⟨s6, s7, rfl⟩
  | x :: R, s6, s7, h => by
    cases z : x.1.eq g with
    | true =>
      have z' : (x.1.a = g.a ∧ x.1.b = g.b ∧ x.1.c = g.c) := of_decide_eq_true z
      have hf : findN g (x :: R) = some x.2 := by unfold findN; rw [z]
      obtain ⟨h1, h2⟩ := h _ hf
      have e1 := Mt.mul_ok x.2 hA
      have e2 := Mt.mul_ok L.inv (smM_ok h1)
      have e3 : F_inverse_of [L.d] = some L.inv.d := inverse_ok hL.hp hL.hq hL.hr hL.hs h2
      refine ⟨s6, s7, ?_⟩
      rw [hf]
      simp [ctb, z', e1, e2, e3]
    | false =>
      have z' : ¬ (x.1.a = g.a ∧ x.1.b = g.b ∧ x.1.c = g.c) := of_decide_eq_false z
      have hf : findN g (x :: R) = findN g R := by show (match x.1.eq g with | true => _ | false => _) = _; rw [z]
      obtain ⟨s6', s7', e⟩ := find_go hA hL R (.fz x.1.d) (.fz x.2.d) fun B hB => h B (by rw [hf]; exact hB)
      refine ⟨s6', s7', ?_⟩
      rw [hf, ← e]
      simp [ctb, z']
theorem change_ok {D : Int} (hD' : D < 640) {f g : Fm} {r : Option Mt} (h : chN D f g = some r) (hf : f.ok) (hD : D = f.D) (hg : g.ok) (hDg : D = g.D) : F_change_to [f.d, g.d] = some (match r with | some M => M.d | none => .non) := by
  have e1 := disc_for f.a f.b f.c (by have := hf.ha; omega) hf.hb
  have e1' : F_discriminant_for [f.d] = some (.int D) := by rw [hD]; exact e1
  have e2 := disc_for g.a g.b g.c (by have := hg.ha; omega) hg.hb
  have e2' : F_discriminant_for [g.d] = some (.int D) := by rw [hDg]; exact e2
  unfold chN at h
  split at h
  · rename_i near A z1
    split at h
    · rename_i goal L z2
      split at h
      · rename_i R z3
        obtain ⟨o1, sA, _, d1, e3⟩ := reduced_ok hD' z1 hf hD
        obtain ⟨o2, sL, _, d2, e4⟩ := reduced_ok hD' z2 hg hDg
        obtain ⟨l1, all, e5⟩ := ring_ok hD' z3 o1 d1
        split at h
        · rename_i B z4
          split at h
          · rename_i z5
            cases h
            rw [Bool.and_eq_true] at z5
            obtain ⟨s6, s7, e6⟩ := find_go (s0 := .fz f.d) (s1 := .fz g.d) (s2 := .fz near.d) sA sL R .no .no (g := goal) fun B' hB' => by
              rw [z4] at hB'; cases hB'
              exact ⟨z5.1, of_decide_eq_true z5.2⟩
            rw [z4] at e6
            simp [F_change_to, runF, s_change_to, e1', e2', e3, e4, e5, e6]
          · cases h
        · rename_i z4
          cases h
          obtain ⟨s6, s7, e6⟩ := find_go (s0 := .fz f.d) (s1 := .fz g.d) (s2 := .fz near.d) sA sL R .no .no (g := goal) fun B' hB' => by
            rw [z4] at hB'; cases hB'
          rw [z4] at e6
          simp [F_change_to, runF, s_change_to, e1', e2', e3, e4, e5, e6]
      · cases h
    · cases h
  · cases h
end L3
set_option maxHeartbeats 4000000
namespace L3
open PySem L2 RZ
/-! ### natives: the forms with a first coefficient -/
def goalsGo (D n : Int) : List Nat → Option (List Fm)
  | [] => some []
  | b :: bs => match decide (((b : Int) * b - D).fmod (4 * n) = 0) with
    | true => nz (((b : Int) * b - D).fdiv (4 * n)) fun c => match okF n b c with
      | true => match goalsGo D n bs with
        | some R => match decide (gcd3 n b c = 1) && (decide (0 < D) || decide (0 < n)) with
          | true => some (⟨n, b, c⟩ :: R)
          | false => some R
        | none => none
      | false => none
    | false => goalsGo D n bs
def goalsN (D n : Int) : Option (List Fm) := goalsGo D n (List.range (2 * n.natAbs))
abbrev fwb : En → Option Fl := sIf (fB (f2 dEq (f2 dMod (f2 dSub (f2 dMul (fV 3) (fV 3)) (fV 0)) (f2 dMul (fK (.int 4)) (fV 1))) (fK (.int 0)))) (sSeq (sSet 4 (fC F_Form (fCons (fTup (fCons (fV 1) (fCons (fV 3) (fCons (f2 dDiv (f2 dSub (f2 dMul (fV 3) (fV 3)) (fV 0)) (f2 dMul (fK (.int 4)) (fV 1))) (fNil))))) fNil)))
  (sIf (fAnd (fB (f2 dEq (fProp P_content (fV 4)) (fK (.int 1)))) (fOr (fB (f2 dGt (fV 0) (fK (.int 0)))) (fB (f2 dGt (fV 1) (fK (.int 0)))))) (sApp 2 (fV 4)) (sNext))) (sNext)
theorem goals_go {D n : Int} (hn : n ≠ 0) (hn' : n.natAbs < 1000) : ∀ (bs : List Nat) (R : List Fm) (acc : List Dat) (s3 s4 : Sl), goalsGo D n bs = some R → (∀ b ∈ bs, b < 100000) → acc.length + bs.length < 10000 →
    R.length ≤ bs.length ∧ (∀ f ∈ R, f.ok ∧ f.a = n ∧ (f.b * f.b - D).fmod (4 * n) = 0 ∧ f.c = (f.b * f.b - D).fdiv (4 * n) ∧ gcd3 f.a f.b f.c = 1) ∧ ∃ s3' s4', forGo (gN 3) fwb (bs.map fun i => Dat.int (i : Nat)) [.fz (.int D), .fz (.int n), .ow acc, s3, s4] = some (.nx [.fz (.int D), .fz (.int n), .ow (acc ++ R.map Fm.d), s3', s4'])
  | [], R, acc, s3, s4, h, _, _ => by
    cases h
    exact ⟨Nat.le_refl _, by simp, s3, s4, by simp⟩
  | b :: bs, R, acc, s3, s4, h, hb, hl => by
    have m1 := dMul_l (i := (b : Int)) (j := (b : Int)) (by have := hb b (List.mem_cons_self ..); omega)
    have m2 := dMul_l (i := 4) (j := n) (by decide)
    have n4 : 4 * n ≠ 0 := by omega
    have d1 := dMod_ok (i := (b : Int) * b - D) n4
    have d2 := dDiv_ok (i := (b : Int) * b - D) n4 (by omega)
    have hb' : ∀ b ∈ bs, b < 100000 := fun x hx => hb x (List.mem_cons_of_mem _ hx)
    have hl' : acc.length + bs.length < 10000 := by simp at hl; omega
    unfold goalsGo at h
    split at h
    · rename_i z1
      have z1 := of_decide_eq_true z1
      rw [nz_eq] at h
      split at h
      · rename_i z2
        have o := okF_ok z2
        have e1 := o.form
        have e2 := content_ok (a := n) (b := b) (c := ((b : Int) * b - D).fdiv (4 * n)) (by omega) o.hb (by have := o.hc; omega)
        split at h
        · rename_i R1 z3
          split at h
          · rename_i z4
            cases h
            rw [Bool.and_eq_true, Bool.or_eq_true] at z4
            have z5 := of_decide_eq_true z4.1
            obtain ⟨l1, all, t3, t4, e3⟩ := goals_go hn hn' bs R1 (acc ++ [.frm n b (((b : Int) * b - D).fdiv (4 * n))]) (.fz (.int b)) (.fz (.frm n b (((b : Int) * b - D).fdiv (4 * n)))) z3 hb' (by simp at hl ⊢; omega)
            refine ⟨by simp; omega, fun f hf => ?_, t3, t4, ?_⟩
            · rcases List.mem_cons.mp hf with q | q
              · subst q; exact ⟨o, rfl, z1, rfl, z5⟩
              · exact all f q
            · have la : acc.length < 100000 := by omega
              rw [List.append_assoc] at e3
              rcases z4.2 with q | q
              · have q := of_decide_eq_true q
                simp [fwb, m1, m2, d1, d2, z1, e1, e2, z5, q, la, e3]
              · have q := of_decide_eq_true q
                by_cases q0 : 0 < D
                · simp [fwb, m1, m2, d1, d2, z1, e1, e2, z5, q0, la, e3]
                · simp [fwb, m1, m2, d1, d2, z1, e1, e2, z5, q0, q, la, e3]
          · rename_i z4
            cases h
            obtain ⟨l1, all, t3, t4, e3⟩ := goals_go hn hn' bs R acc (.fz (.int b)) (.fz (.frm n b (((b : Int) * b - D).fdiv (4 * n)))) z3 hb' hl'
            refine ⟨by simp; omega, all, t3, t4, ?_⟩
            rw [Bool.and_eq_false_iff] at z4
            by_cases q : gcd3 n b (((b : Int) * b - D).fdiv (4 * n)) = 1
            · rcases z4 with z4 | z4
              · exact absurd q (of_decide_eq_false z4)
              · rw [Bool.or_eq_false_iff] at z4
                have q1 := of_decide_eq_false z4.1
                have q2 := of_decide_eq_false z4.2
                simp [fwb, m1, m2, d1, d2, z1, e1, e2, q, q1, q2, e3]
            · have q' : ¬ ((gcd3 n b (((b : Int) * b - D).fdiv (4 * n)) : Nat) : Int) = 1 := by omega
              simp [fwb, m1, m2, d1, d2, z1, e1, e2, q', e3]
        · cases h
      · cases h
    · rename_i z1
      have z1 := of_decide_eq_false z1
      obtain ⟨l1, all, t3, t4, e3⟩ := goals_go hn hn' bs R acc (.fz (.int b)) s4 h hb' hl'
      refine ⟨by simp; omega, all, t3, t4, ?_⟩
      simp [fwb, m1, m2, d1, z1, e3]
theorem irng_0 (n : Int) : irng 0 n = (List.range n.toNat).map fun i => Dat.int (i : Nat) := by
  unfold irng
  rw [Int.sub_zero]
  exact List.map_congr_left fun i _ => by rw [Int.zero_add]
theorem goals_ok {D n : Int} {R : List Fm} (hn : n ≠ 0) (hn' : n.natAbs < 1000) (h : goalsN D n = some R) : R.length ≤ 2 * n.natAbs ∧ (∀ f ∈ R, f.ok ∧ f.a = n ∧ (f.b * f.b - D).fmod (4 * n) = 0 ∧ f.c = (f.b * f.b - D).fdiv (4 * n) ∧ gcd3 f.a f.b f.c = 1) ∧ F_forms_with [.int D, .int n] = some (.lst (R.map Fm.d)) := by
  obtain ⟨l1, all, s3, s4, e⟩ := goals_go hn hn' (List.range (2 * n.natAbs)) R [] .no .no h (fun b hb => by have := List.mem_range.mp hb; omega) (by simp; omega)
  rw [List.length_range] at l1
  refine ⟨l1, all, ?_⟩
  have m := dMul_l (i := 2) (j := (n.natAbs : Int)) (by decide)
  have i : irng 0 (2 * (n.natAbs : Int)) = (List.range (2 * n.natAbs)).map fun i => Dat.int (i : Nat) := by
    rw [irng_0]
    congr 2
  have r : -1000000 ≤ 2 * (n.natAbs : Int) ∧ 2 * (n.natAbs : Int) ≤ 1000000 := by omega
  simp [F_forms_with, runF, s_forms_with, m, r, i]
  rw [e]
  simp
theorem goals_D {D n : Int} {f : Fm} (hn : n ≠ 0) (h1 : f.a = n) (h2 : (f.b * f.b - D).fmod (4 * n) = 0) (h3 : f.c = (f.b * f.b - D).fdiv (4 * n)) : D = f.D := by
  have := Int.fmod_add_mul_fdiv (f.b * f.b - D) (4 * n)
  rw [h2, ← h3] at this
  unfold Fm.D
  rw [h1]
  omega
end L3
set_option maxHeartbeats 4000000
namespace L3
open PySem L2 RZ
/-! ### natives: the classes that give a number -/
def leadsN (D : Int) : List Fm → Option (List Fm)
  | [] => some []
  | g :: gs => match leadN D g with
    | some f => match leadsN D gs with
      | some L => some (f :: L)
      | none => none
    | none => none
abbrev entT (f : Fm) : List Int × Dat := (tl f, f.d)
theorem tl_inj {f g : Fm} (h : tl f = tl g) : f = g := by
  cases f; cases g
  unfold tl at h
  simp only [List.cons.injEq, and_true] at h
  simp only [Fm.mk.injEq]; exact h
theorem put_fm (M : List Fm) (f : Fm) : ∃ M' : List Fm, putT (M.map entT) (tl f) f.d = M'.map entT ∧ (∀ x, x ∈ M' ↔ x ∈ M ∨ x = f) ∧ M'.length ≤ M.length + 1 := by
  unfold putT
  by_cases h : ((M.map entT).any fun p => decide (p.1 = tl f)) = true
  · rw [if_pos h]
    obtain ⟨p, hp, e⟩ := List.any_eq_true.mp h
    obtain ⟨y, hy, rfl⟩ := List.mem_map.mp hp
    have e := tl_inj (of_decide_eq_true e)
    subst e
    refine ⟨M, ?_, fun x => ⟨.inl, fun z => z.elim id fun z => by subst z; exact hy⟩, by omega⟩
    rw [List.map_map]
    refine List.map_congr_left fun x hx => ?_
    show (if tl x = tl y then (tl x, y.d) else (tl x, x.d)) = (tl x, x.d)
    by_cases z : tl x = tl y
    · rw [if_pos z, tl_inj z]
    · rw [if_neg z]
  · rw [if_neg h]
    exact ⟨M ++ [f], by rw [List.map_append]; rfl, fun x => by simp, by simp⟩
theorem cg_go {D : Int} (hD' : D < 640) : ∀ (gs L M : List Fm), leadsN D gs = some L → (∀ g ∈ gs, g.ok ∧ D = g.D) → M.length + gs.length < 10000 →
    ∃ M' : List Fm, cgGo F_lead_of P_coefficients (gs.map Fm.d) (M.map entT) = some (M'.map entT) ∧ (∀ x, x ∈ M' ↔ x ∈ M ∨ x ∈ L) ∧ M'.length ≤ M.length + gs.length
  | [], L, M, h, _, _ => by
    cases h
    exact ⟨M, rfl, fun x => by simp, by simp⟩
  | g :: gs, L, M, h, ho, hl => by
    unfold leadsN at h
    split at h
    · rename_i f z1
      split at h
      · rename_i L1 z2
        cases h
        obtain ⟨o, d⟩ := ho g (List.mem_cons_self ..)
        obtain ⟨fo, fd, e1⟩ := lead_ok hD' z1 o d
        obtain ⟨M1, p1, p2, p3⟩ := put_fm M f
        obtain ⟨M2, q1, q2, q3⟩ := cg_go hD' gs L1 M1 z2 (fun x hx => ho x (List.mem_cons_of_mem _ hx)) (by simp at hl; omega)
        refine ⟨M2, ?_, fun x => ?_, by simp; omega⟩
        · have : tupOfI (ti f.a f.b f.c) = some (tl f) := intsOf_ints (tl f)
          simp only [List.map_cons, cgGo, e1, Option.bind_some, coeffs_ok, this]
          rw [if_pos (by rw [List.length_map]; simp at hl; omega), p1, q1]
        · rw [q2, p2, List.mem_cons, or_assoc]
      · cases h
    · cases h
theorem get_fm : ∀ (M : List Fm) (f : Fm), f ∈ M → getT (M.map entT) (tl f) = some f.d
  | [], f, h => by cases h
  | x :: M, f, h => by
    unfold getT
    rw [List.map_cons, List.find?_cons]
    by_cases z : tl x = tl f
    · rw [decide_eq_true (p := (entT x).1 = tl f) z]
      rw [tl_inj z]; rfl
    · rw [decide_eq_false (p := (entT x).1 = tl f) z]
      rcases List.mem_cons.mp h with q | q
      · exact absurd (by rw [q]) z
      · exact get_fm M f q
theorem vals_fm (M : List Fm) : ∀ ks : List Fm, (∀ f ∈ ks, f ∈ M) → valsT (M.map entT) (ks.map tl) = some (ks.map Fm.d)
  | [], _ => rfl
  | k :: ks, h => by
    show (getT (M.map entT) (tl k)).bind _ = _
    rw [get_fm M k (h k (List.mem_cons_self ..))]
    show (valsT (M.map entT) (ks.map tl)).bind _ = _
    rw [vals_fm M ks fun f hf => h f (List.mem_cons_of_mem _ hf)]
    rfl
def toFm : List Int → Fm
  | [a, b, c] => ⟨a, b, c⟩
  | _ => ⟨0, 0, 0⟩
theorem toFm_tl (f : Fm) : toFm (tl f) = f := rfl
theorem cg_ok {D : Int} (hD' : D < 640) {gs L : List Fm} (h : leadsN D gs = some L) (ho : ∀ g ∈ gs, g.ok ∧ D = g.D) (hl : gs.length < 10000) : ∃ out : List Fm, s_cg F_lead_of P_coefficients (gs.map Fm.d) = some (out.map Fm.d) ∧ ∀ x, x ∈ out ↔ x ∈ L := by
  obtain ⟨M, e1, e2, e3⟩ := cg_go hD' gs L [] h ho (by simpa using hl)
  have hp := sortT_perm (M.map tl)
  have ht : ∀ t ∈ sortT (M.map tl), ∃ f ∈ M, t = tl f := fun t h => by
    obtain ⟨f, hf, e⟩ := List.mem_map.mp (hp.mem_iff.mp h)
    exact ⟨f, hf, e.symm⟩
  have es : ((sortT (M.map tl)).map toFm).map tl = sortT (M.map tl) := by
    rw [List.map_map]
    refine (List.map_congr_left fun t h => ?_).trans (List.map_id _)
    obtain ⟨f, _, rfl⟩ := ht t h
    rfl
  have hsub : ∀ f ∈ (sortT (M.map tl)).map toFm, f ∈ M := fun f hf => by
    obtain ⟨t, h1, rfl⟩ := List.mem_map.mp hf
    obtain ⟨g, hg, rfl⟩ := ht t h1
    exact hg
  refine ⟨(sortT (M.map tl)).map toFm, ?_, fun x => ?_⟩
  · unfold s_cg
    have e1' : cgGo F_lead_of P_coefficients (gs.map Fm.d) [] = some (M.map entT) := e1
    rw [e1']
    have ek : (M.map entT).map (·.1) = M.map tl := by rw [List.map_map]; rfl
    show (if (neB ((M.map entT).map (·.1)) && decide ((M.map entT).length ≤ 100000)) = true then valsT (M.map entT) (sortT ((M.map entT).map (·.1))) else none) = _
    rw [ek, if_pos, ← es, vals_fm M _ hsub]
    · rw [es]
    · rw [Bool.and_eq_true]
      refine ⟨List.all_eq_true.mpr fun t h => ?_, decide_eq_true (by rw [List.length_map]; simp at e3; omega)⟩
      obtain ⟨f, _, rfl⟩ := List.mem_map.mp h
      rfl
  · have : x ∈ M ↔ x ∈ L := by rw [e2]; simp
    rw [← this]
    refine ⟨fun h => hsub x h, fun h => List.mem_map.mpr ⟨tl x, hp.mem_iff.mpr (List.mem_map.mpr ⟨x, h, rfl⟩), rfl⟩⟩
/-- a discriminant that the law may draw -/
structure DD (D : Int) : Prop where
  lo : -120 ≤ D
  hi : D ≤ 120
  d : isD D = true
theorem check_disc {D : Int} (h : DD D) : F_check_discriminant [.int D] = some .non := by
  have e := disc_ok h.lo h.hi
  rw [h.d] at e
  simp [F_check_discriminant, runF, s_check_discriminant, e]
theorem giving_ok {D n : Int} (h : DD D) {gs L : List Fm} (hn : n ≠ 0) (hn' : n.natAbs < 1000) (h1 : goalsN D n = some gs) (h2 : leadsN D gs = some L) : ∃ out : List Fm, F_classes_giving [.int D, .int n] = some (.tup (out.map Fm.d)) ∧ ∀ x, x ∈ out ↔ x ∈ L := by
  have hD' : D < 640 := by have := h.hi; omega
  obtain ⟨l1, all, e1⟩ := goals_ok hn hn' h1
  obtain ⟨out, e2, e3⟩ := cg_ok hD' h2 (fun g hg => ⟨(all g hg).1, goals_D hn (all g hg).2.1 (all g hg).2.2.1 (all g hg).2.2.2.1⟩) (by omega)
  refine ⟨out, ?_, e3⟩
  have b : F_is_between [.int n, .int (-1000), .int 1000] = some (.bl true) := by
    rw [between_ok]
    have h1 : (-1000 : Int) ≤ n := by omega
    have h2 : n ≤ (1000 : Int) := by omega
    simp [h1, h2]
  have g : s_cgT F_forms_with F_lead_of P_coefficients [.fz (.int D), .fz (.int n), .no, .no, .no, .no] = some (.rt (.tup (out.map Fm.d))) := by
    show (F_forms_with [.int D, .int n]).bind _ = _
    rw [e1]
    show (s_cg F_lead_of P_coefficients (gs.map Fm.d)).bind _ = _
    rw [e2]
    rfl
  simp [F_classes_giving, runF, s_classes_giving, check_disc h, b, hn, g]
end L3
set_option maxHeartbeats 4000000
namespace L3
open PySem L2 RZ
/-! ### natives: starts of families -/
def isLs (x : Option Dat) (ns : List Int) : Bool := match x with
  | some (.lst ds) => (match intsOf ds with
    | some ms => decide (ms = ns)
    | none => false)
  | _ => false
theorem isLs_ok {x : Option Dat} {ns : List Int} (h : isLs x ns = true) : x = some (.lst (ns.map Dat.int)) := by
  unfold isLs at h
  split at h
  · split at h
    · rename_i e
      rw [intsOf_map e, of_decide_eq_true h]
    · cases h
  · cases h
/-- the integers whose squares divide a number up to 24 -/
def sqp (N : Int) : List Int := 1 :: ((if N % 4 = 0 then [2] else []) ++ ((if N % 9 = 0 then [3] else []) ++ (if N % 16 = 0 then [4] else [])))
def Nums : List Int := (List.range 24).map (fun i : Nat => ((i : Nat) : Int) + 1) ++ (List.range 24).map (fun i : Nat => -(((i : Nat) : Int) + 1))
theorem nums_mem {N : Int} (h : N ≠ 0) (h' : N.natAbs ≤ 24) : N ∈ Nums := by
  unfold Nums
  rw [List.mem_append]
  by_cases z : 0 < N
  · exact .inl (List.mem_map.mpr ⟨(N - 1).toNat, List.mem_range.mpr (by omega), by omega⟩)
  · exact .inr (List.mem_map.mpr ⟨(-N - 1).toNat, List.mem_range.mpr (by omega), by omega⟩)
theorem sqp_all : (Nums.all fun N => isLs (F_square_parts [.int N]) (sqp N)) = true := by decide +kernel
theorem sqp_ok {N : Int} (h : N ≠ 0) (h' : N.natAbs ≤ 24) : F_square_parts [.int N] = some (.lst ((sqp N).map Dat.int)) := isLs_ok (List.all_eq_true.mp sqp_all N (nums_mem h h'))
abbrev pD (x : Int × Int) : Dat := .tup [.int x.1, .int x.2]
def stG (D : Int) (f : Fm) (p : Int) : List Fm → Option (List (Int × Int))
  | [] => some []
  | g :: gs => match chN D f g with
    | some (some M) => (match stG D f p gs with
      | some L => some ((p * M.p, p * M.r) :: L)
      | none => none)
    | some none => stG D f p gs
    | none => none
def stP (D : Int) (f : Fm) (N : Int) : List Int → Option (List (Int × Int))
  | [] => some []
  | p :: ps => nz (N.fdiv (p * p)) fun n => match Nat.blt p.natAbs 100 && (!decide (p = 0) && (!decide (n = 0) && Nat.blt n.natAbs 1000)) with
    | true => match goalsN D n with
      | some gs => match stG D f p gs with
        | some L => match stP D f N ps with
          | some L' => some (L ++ L')
          | none => none
        | none => none
      | none => none
    | false => none
abbrev sti : En → Option Fl := sSeq (sSet 5 (fC F_change_to (fCons (fV 0) (fCons (fV 4) (fNil)))))
  (sIf (fB (f1 dNotN (fV 5))) (sApp 2 (fTup (fCons (f2 dMul (fV 3) (fIxL (fSq (fIxL (fSq (fV 5)) (fK (.int 0)))) (fK (.int 0)))) (fCons (f2 dMul (fV 3) (fIxL (fSq (fIxL (fSq (fV 5)) (fK (.int 1)))) (fK (.int 0)))) (fNil))))) (sNext))
abbrev sto : En → Option Fl := sFor (fSq (fC F_forms_with (fCons (fC F_discriminant_for (fCons (fV 0) (fNil))) (fCons (f2 dDiv (fV 1) (f2 dMul (fV 3) (fV 3))) (fNil))))) (gN 4) sti
theorem stG_go {D : Int} (hD' : D < 640) {f : Fm} (hf : f.ok) (hD : D = f.D) {p : Int} (hp : p.natAbs < 100) (s1 : Sl) : ∀ (gs : List Fm) (L : List (Int × Int)) (acc : List Dat) (s4 s5 : Sl), stG D f p gs = some L → (∀ g ∈ gs, g.ok ∧ D = g.D) → acc.length + gs.length < 100000 →
    L.length ≤ gs.length ∧ ∃ s4' s5', forGo (gN 4) sti (gs.map Fm.d) [.fz f.d, s1, .ow acc, .fz (.int p), s4, s5] = some (.nx [.fz f.d, s1, .ow (acc ++ L.map pD), .fz (.int p), s4', s5'])
  | [], L, acc, s4, s5, h, _, _ => by
    cases h
    exact ⟨Nat.le_refl _, s4, s5, by simp⟩
  | g :: gs, L, acc, s4, s5, h, ho, hl => by
    obtain ⟨o, d⟩ := ho g (List.mem_cons_self ..)
    have ho' : ∀ x ∈ gs, x.ok ∧ D = x.D := fun x hx => ho x (List.mem_cons_of_mem _ hx)
    have hl' : acc.length + gs.length < 100000 := by simp at hl; omega
    unfold stG at h
    split at h
    · rename_i M z1
      have e1 := change_ok hD' z1 hf hD o d
      split at h
      · rename_i L1 z2
        cases h
        obtain ⟨l1, t4, t5, e2⟩ := stG_go hD' hf hD hp s1 gs L1 (acc ++ [pD (p * M.p, p * M.r)]) (.fz g.d) (.fz M.d) z2 ho' (by simp at hl ⊢; omega)
        refine ⟨by simp; omega, t4, t5, ?_⟩
        have m1 := dMul_l (i := p) (j := M.p) (by omega)
        have m2 := dMul_l (i := p) (j := M.r) (by omega)
        have la : acc.length < 100000 := by omega
        rw [List.append_assoc] at e2
        simp [sti, e1, dNotN, m1, m2, la, e2]
      · cases h
    · rename_i z1
      have e1 := change_ok hD' z1 hf hD o d
      obtain ⟨l1, t4, t5, e2⟩ := stG_go hD' hf hD hp s1 gs L acc (.fz g.d) (.fz .non) h ho' hl'
      refine ⟨by simp; omega, t4, t5, ?_⟩
      simp [sti, e1, dNotN, e2]
    · cases h
theorem stP_go {D : Int} (hD' : D < 640) {f : Fm} (hf : f.ok) (hD : D = f.D) {N : Int} : ∀ (ps : List Int) (L : List (Int × Int)) (acc : List Dat) (s3 s4 s5 : Sl), stP D f N ps = some L → acc.length + ps.length * 2000 < 100000 →
    L.length ≤ ps.length * 2000 ∧ ∃ s3' s4' s5', forGo (gN 3) sto (ps.map Dat.int) [.fz f.d, .fz (.int N), .ow acc, s3, s4, s5] = some (.nx [.fz f.d, .fz (.int N), .ow (acc ++ L.map pD), s3', s4', s5'])
  | [], L, acc, s3, s4, s5, h, _ => by
    cases h
    exact ⟨Nat.le_refl _, s3, s4, s5, by simp⟩
  | p :: ps, L, acc, s3, s4, s5, h, hl => by
    unfold stP at h
    rw [nz_eq] at h
    split at h
    · rename_i z0
      simp only [Bool.and_eq_true, Bool.not_eq_true', decide_eq_false_iff_not] at z0
      obtain ⟨q1, q2, q3, q4⟩ := z0
      have q1 : p.natAbs < 100 := Nat.le_of_ble_eq_true q1
      have q4 : (N.fdiv (p * p)).natAbs < 1000 := Nat.le_of_ble_eq_true q4
      split at h
      · rename_i gs z1
        split at h
        · rename_i L1 z2
          split at h
          · rename_i L2 z3
            cases h
            obtain ⟨l1, all, e1⟩ := goals_ok q3 q4 z1
            have ho : ∀ g ∈ gs, g.ok ∧ D = g.D := fun g hg => ⟨(all g hg).1, goals_D q3 (all g hg).2.1 (all g hg).2.2.1 (all g hg).2.2.2.1⟩
            obtain ⟨l2, t4, t5, e2⟩ := stG_go hD' hf hD q1 (.fz (.int N)) gs L1 acc s4 s5 z2 ho (by simp at hl; omega)
            obtain ⟨l3, u3, u4, u5, e3⟩ := stP_go hD' hf hD ps L2 (acc ++ L1.map pD) (.fz (.int p)) t4 t5 z3 (by simp at hl ⊢; omega)
            refine ⟨by simp; omega, u3, u4, u5, ?_⟩
            have d0 := disc_for f.a f.b f.c (by have := hf.ha; omega) hf.hb
            have d0' : F_discriminant_for [f.d] = some (.int D) := by rw [hD]; exact d0
            have m1 := dMul_l (i := p) (j := p) (by omega)
            have pp : p * p ≠ 0 := Int.mul_ne_zero q2 q2
            have pb : (p * p).natAbs < 1073741824 := by
              rw [Int.natAbs_mul]
              have : p.natAbs * p.natAbs ≤ 100 * 100 := Nat.mul_le_mul (by omega) (by omega)
              omega
            have d1 := dDiv_ok (i := N) pp pb
            rw [List.append_assoc] at e3
            simp [sto, d0', m1, d1, e1]
            rw [e2]
            simp [e3]
          · cases h
        · cases h
      · cases h
    · cases h
def startsN (D : Int) (f : Fm) (N : Int) : Option (List (Int × Int)) := stP D f N (sqp N)
theorem sqp_len (N : Int) : (sqp N).length ≤ 4 := by
  unfold sqp
  split <;> split <;> split <;> decide
theorem starts_ok {D : Int} (hD' : D < 640) {f : Fm} (hf : f.ok) (hD : D = f.D) {N : Int} (hN : N ≠ 0) (hN' : N.natAbs ≤ 24) {L : List (Int × Int)} (h : startsN D f N = some L) : L.length < 10000 ∧ F_starts_of [f.d, .int N] = some (.lst (L.map pD)) := by
  obtain ⟨l1, s3, s4, s5, e⟩ := stP_go hD' hf hD (sqp N) L [] .no .no .no h (by have := sqp_len N; simp; omega)
  refine ⟨by have := sqp_len N; omega, ?_⟩
  simp [F_starts_of, runF, s_starts_of, sqp_ok hN hN']
  rw [e]
  simp
/-! ### is a form given, solved -/
theorem nenil_pD (L : List (Int × Int)) : dNeNil (L.map pD) = some (.bl (!L.isEmpty)) := by
  have e : L.map pD = (L.map fun x => [x.1, x.2]).map tupI := by rw [List.map_map]; rfl
  unfold dNeNil
  rw [e, pdL_tups]
  show (shp (.list ((L.map fun x => [x.1, x.2]).map ptup))).bind _ = _
  unfold shp
  rw [if_pos (shaped_tups _)]
  simp
theorem check_num {N : Int} (hN : N ≠ 0) (hN' : N.natAbs ≤ 24) : F_check_number [.int N] = some .non := by
  have b : F_is_between [.int N, .int (-1000), .int 1000] = some (.bl true) := by
    rw [between_ok]
    have h1 : (-1000 : Int) ≤ N := by omega
    have h2 : N ≤ (1000 : Int) := by omega
    simp [h1, h2]
  simp [F_check_number, runF, s_check_number, b, hN]
theorem check_frm (f : Fm) : F_check_form [f.d] = some .non := by
  simp [F_check_form, runF, s_check_form, dIsForm]
theorem is_bin {D : Int} (h : DD D) {f : Fm} (hf : f.ok) (hD : D = f.D) (hp : 0 < D ∨ 0 < f.a) : F_is_binary [f.d] = some (.bl true) := by
  have d0 := disc_for f.a f.b f.c (by have := hf.ha; omega) hf.hb
  have d0' : F_discriminant_for [f.d] = some (.int D) := by rw [hD]; exact d0
  have e := disc_ok h.lo h.hi
  rw [h.d] at e
  have u : P_unknowns [f.d] = some (.int 2) := rfl
  rcases hp with q | q
  · simp [F_is_binary, runF, s_is_binary, u, d0', e, q]
  · by_cases q0 : 0 < D
    · simp [F_is_binary, runF, s_is_binary, u, d0', e, q0]
    · simp [F_is_binary, runF, s_is_binary, u, d0', e, q0, coeffs_ok, q]
theorem check_bin {D : Int} (h : DD D) {f : Fm} (hf : f.ok) (hD : D = f.D) (hp : 0 < D ∨ 0 < f.a) : F_check_binary [f.d] = some .non := by
  simp [F_check_binary, runF, s_check_binary, is_bin h hf hD hp]
theorem is_given_ok {D : Int} (h : DD D) {f g : Fm} (hg : g.ok) (hDg : D = g.D) (hl : leadN D g = some f) (hc : gcd3 g.a g.b g.c = 1) {N : Int} (hN : N ≠ 0) (hN' : N.natAbs ≤ 24) {L : List (Int × Int)} (hs : startsN D f N = some L) : F_is_given [g.d, .int N] = some (.bl (!L.isEmpty)) := by
  have hD' : D < 640 := by have := h.hi; omega
  obtain ⟨hf, hD, e1⟩ := lead_ok hD' hl hg hDg
  obtain ⟨_, e2⟩ := starts_ok hD' hf hD hN hN' hs
  have e3 := content_ok (a := g.a) (b := g.b) (c := g.c) (by have := hg.ha; omega) hg.hb (by have := hg.hc; omega)
  rw [hc] at e3
  have e4 := hg.form
  have m : dMod (.int N) (.int 1) = some (.int 0) := by rw [dMod_ok (by decide)]; simp
  have d := fun x : Int => (dDiv_ok (i := x) (j := 1) (by decide) (by decide)).trans (by rw [Int.fdiv_one])
  simp [F_is_given, runF, s_is_given, e3, m, coeffs_ok, d, e4, e1, e2, nenil_pD]
theorem is_solved_ok {D : Int} (h : DD D) {f g : Fm} (hg : g.ok) (hDg : D = g.D) (hp : 0 < D ∨ 0 < g.a) (hl : leadN D g = some f) (hc : gcd3 g.a g.b g.c = 1) {N : Int} (hN : N ≠ 0) (hN' : N.natAbs ≤ 24) {L : List (Int × Int)} (hs : startsN D f N = some L) : F_is_solved [g.d, .int N] = some (.bl (!L.isEmpty)) := by
  simp [F_is_solved, runF, s_is_solved, check_frm, check_num hN hN', check_bin h hg hDg hp, is_given_ok h hg hDg hl hc hN hN' hs]
end L3
set_option maxHeartbeats 4000000
namespace L3
open PySem L2 RZ
/-! ### natives: units, turns, families -/
def unitL : List (Int × Int × Int) := [(5, 3, 1), (8, 6, 2), (12, 4, 1), (13, 11, 3), (17, 66, 16), (20, 18, 4), (21, 5, 1), (24, 10, 2), (28, 16, 3), (29, 27, 5), (32, 6, 1), (33, 46, 8), (37, 146, 24), (40, 38, 6), (41, 4098, 640), (44, 20, 3), (45, 7, 1), (48, 14, 2), (52, 1298, 180), (53, 51, 7), (56, 30, 4), (57, 302, 40), (60, 8, 1), (61, 1523, 195), (65, 258, 32), (68, 66, 8), (69, 25, 3), (72, 34, 4), (73, 4562498, 534000), (76, 340, 39), (77, 9, 1), (80, 18, 2), (84, 110, 12), (85, 83, 9), (88, 394, 42), (89, 1000002, 106000), (92, 48, 5), (93, 29, 3), (96, 10, 1), (97, 125619266, 12754704), (101, 402, 40), (104, 102, 10), (105, 82, 8), (108, 52, 5), (109, 68123, 6525), (112, 254, 24), (113, 2408706, 226592), (116, 19602, 1820), (117, 11, 1), (120, 22, 2)]
def isTup2 (x : Option Dat) (t u : Int) : Bool := match x with
  | some (.tup [.int a, .int b]) => decide (a = t) && decide (b = u)
  | _ => false
theorem isTup2_ok {x : Option Dat} {t u : Int} (h : isTup2 x t u = true) : x = some (.tup [.int t, .int u]) := by
  unfold isTup2 at h
  split at h
  · rw [Bool.and_eq_true] at h
    rw [of_decide_eq_true h.1, of_decide_eq_true h.2]
  · cases h
theorem unit_all : (unitL.all fun x => isTup2 (F_unit_for [.int x.1]) x.2.1 x.2.2) = true := by decide +kernel
def unitN (D : Int) : Option (Int × Int) := (unitL.find? fun x => decide (x.1 = D)).map (·.2)
theorem unitN_ok {D t u : Int} (h : unitN D = some (t, u)) : F_unit_for [.int D] = some (.tup [.int t, .int u]) := by
  unfold unitN at h
  obtain ⟨x, h1, h2⟩ := Option.map_eq_some_iff.mp h
  have h3 := List.find?_some h1
  have h4 := List.mem_of_find?_eq_some h1
  have e := isTup2_ok (List.all_eq_true.mp unit_all x h4)
  rw [of_decide_eq_true h3, h2] at e
  exact e
def turnN (f : Fm) (t u : Int) : Mt := ⟨(t - f.b * u).fdiv 2, -f.c * u, f.a * u, (t + f.b * u).fdiv 2⟩
theorem turnN_ok {D : Int} {f : Fm} (hf : f.ok) (hD : D = f.D) {t u : Int} (h : unitN D = some (t, u)) : F_turn_for [f.d] = some (turnN f t u).d := by
  have d0 := disc_for f.a f.b f.c (by have := hf.ha; omega) hf.hb
  have d0' : F_discriminant_for [f.d] = some (.int D) := by rw [hD]; exact d0
  have e := unitN_ok h
  have m1 := dMul_l (i := f.b) (j := u) (by have := hf.hb; omega)
  have m2 := dMul_l (i := -f.c) (j := u) (by have := hf.hc; omega)
  have m3 := dMul_l (i := f.a) (j := u) (by have := hf.ha; omega)
  have d := fun x : Int => dDiv_ok (i := x) (j := 2) (by decide) (by decide)
  simp [F_turn_for, runF, s_turn_for, coeffs_ok, d0', e, m1, m2, m3, d, turnN]
def Mt.app (M : Mt) (x : Int × Int) : Int × Int := (M.p * x.1 + M.q * x.2, M.r * x.1 + M.s * x.2)
theorem Mt.app_ok {M : Mt} (h : SmM M) (x : Int × Int) : F_applied [M.d, pD x] = some (pD (M.app x)) := applied_ok x.1 x.2 (Nat.lt_trans h.hp (by decide)) (Nat.lt_trans h.hq (by decide)) (Nat.lt_trans h.hr (by decide)) (Nat.lt_trans h.hs (by decide))
def pnz {α : Type} (x : Int × Int) (k : Int × Int → α) : α := nz x.1 fun a => nz x.2 fun b => k (a, b)
theorem pnz_eq {α : Type} (x : Int × Int) (k : Int × Int → α) : pnz x k = k x := by
  unfold pnz
  simp only [nz_eq]
def descN (M : Mt) : Nat → Int × Int → Int × Int → Option (Int × Int)
  | 0, _, _ => none
  | n + 1, p, l => match Nat.blt l.2.natAbs p.2.natAbs with
    | true => pnz (M.app l) fun l' => descN M n l l'
    | false => some p
abbrev sdc : En → Option Bool := fB (f2 dLt (fC dAbs (fCons (fIxL (fSq (fV 4)) (fK (.int 1))) fNil)) (fC dAbs (fCons (fIxL (fSq (fV 1)) (fK (.int 1))) fNil)))
abbrev sdb : En → Option Fl := sPar [1, 4] (bF (fV 4) (bF (fC F_applied (fCons (fV 3) (fCons (fV 4) (fNil)))) (bNil)))
theorem desc_go {M : Mt} (hM : SmM M) (s0 s2 s5 s6 s7 : Sl) (N : Nat) : ∀ (n : Nat) (p l r : Int × Int), descN M n p l = some r → ∃ l', whileGo sdc sdb (N + n) [s0, .fz (pD p), s2, .fz M.d, .fz (pD l), s5, s6, s7] = some (.nx [s0, .fz (pD r), s2, .fz M.d, l', s5, s6, s7])
  | 0, _, _, _, h => by cases h
  | n + 1, p, l, r, h => by
    unfold descN at h
    split at h
    · rename_i z
      have z : l.2.natAbs < p.2.natAbs := Nat.le_of_ble_eq_true z
      rw [pnz_eq] at h
      obtain ⟨l', e⟩ := desc_go hM s0 s2 s5 s6 s7 N n l (M.app l) r h
      have e1 := Mt.app_ok hM l
      refine ⟨l', ?_⟩
      show whileGo sdc sdb (N + n + 1) _ = _
      have z' : (l.2.natAbs : Int) < (p.2.natAbs : Int) := by omega
      simp [whileGo_s, sdc, sdb, z, e1, e]
    · rename_i z
      have z : ¬ l.2.natAbs < p.2.natAbs := fun q => by
        have : Nat.blt l.2.natAbs p.2.natAbs = true := Nat.ble_eq_true_of_le q
        rw [this] at z; cases z
      cases h
      refine ⟨.fz (pD l), ?_⟩
      show whileGo sdc sdb (N + n + 1) _ = _
      simp [whileGo_s, sdc, z]
theorem desc_ok {M : Mt} (hM : SmM M) (s0 s2 s5 s6 s7 : Sl) {p l r : Int × Int} (h : descN M 100 p l = some r) : ∃ l', sWhile sdc sdb [s0, .fz (pD p), s2, .fz M.d, .fz (pD l), s5, s6, s7] = some (.nx [s0, .fz (pD r), s2, .fz M.d, l', s5, s6, s7]) :=
  desc_go hM s0 s2 s5 s6 s7 999900 100 p l r h
def wt (x : Int × Int) : List Int := [(x.2.natAbs : Int), (x.1.natAbs : Int), -x.1, -x.2]
theorem wt_ok (x : Int × Int) : F_weight_of [pD x] = some (tupI (wt x)) := by
  simp [F_weight_of, runF, s_weight_of, wt, tupI]
theorem keys_wt : ∀ L : List (Int × Int), keysOf F_weight_of (L.map pD) = some (L.map wt)
  | [] => rfl
  | x :: L => by
    have : tupOfI (tupI (wt x)) = some (wt x) := intsOf_ints (wt x)
    simp only [List.map_cons, keysOf, wt_ok, Option.bind_some, this, keys_wt L]
def negP (x : Int × Int) : Int × Int := (-x.1, -x.2)
def bestN (L : List (Int × Int)) : Option (Int × Int) := L[bestI (L.map wt)]?
theorem tups_pD (L : List (Int × Int)) : tupsOf (L.map pD) = some (L.map fun x => [x.1, x.2]) := by
  have e : L.map pD = (L.map fun x => [x.1, x.2]).map tupI := by rw [List.map_map]; rfl
  rw [e, tupsOf_tups]
theorem best_ok {L : List (Int × Int)} {x : Int × Int} (h : bestN L = some x) (hl : L.length ≤ 100000) : dMinK F_weight_of (L.map pD) = some (pD x) := by
  unfold dMinK
  rw [keys_wt, tups_pD]
  show (if (L.map pD).length ≤ 100000 then (L.map pD)[bestI (L.map wt)]? else none) = _
  rw [if_pos (by rw [List.length_map]; exact hl), List.getElem?_map]
  unfold bestN at h
  rw [h]
  rfl
def sixN (T Ti : Mt) (r : Int × Int) : List (Int × Int) := pnz (T.app r) fun a => pnz (Ti.app r) fun b => pnz (negP r) fun r' => pnz (negP a) fun a' => pnz (negP b) fun b' => [r, a, b, r', a', b']
theorem sixN_eq (T Ti : Mt) (r : Int × Int) : sixN T Ti r = [r, T.app r, Ti.app r, negP r, negP (T.app r), negP (Ti.app r)] := by
  unfold sixN
  simp only [pnz_eq]
abbrev sdf : En → Option Fl := sSeq (sSet 4 (fC F_applied (fCons (fV 3) (fCons (fV 1) (fNil))))) (sWhile sdc sdb)
abbrev sd5 : En → Option Dat := fLst (fCat (fCons (fC dTup (fSq (fV 1))) (fNil)) (fLc (fSq (fV 2)) (gN 3) (fYes) (fC dTup (fSq (fC F_applied (fCons (fV 3) (fCons (fV 1) (fNil)))))) [3]))
abbrev sd6 : En → Option Dat := fLst (fCat (fUn (fV 5)) (fLc (fSq (fV 5)) (gT (gsC (gN 6) (gsC (gN 7) (gsN)))) (fYes) (fTup (fCons (f1 dNeg (fV 6)) (fCons (f1 dNeg (fV 7)) (fNil)))) [6, 7]))
theorem sd_for {T Ti : Mt} {p q r : Int × Int} {s0 l1 l2 : Sl} (a1 : F_applied [T.d, pD p] = some (pD (T.app p))) (a2 : F_applied [Ti.d, pD q] = some (pD (Ti.app q)))
    (w1 : sWhile sdc sdb [s0, .fz (pD p), .fz (.lst [T.d, Ti.d]), .fz T.d, .fz (pD (T.app p)), .no, .no, .no] = some (.nx [s0, .fz (pD q), .fz (.lst [T.d, Ti.d]), .fz T.d, l1, .no, .no, .no]))
    (w2 : sWhile sdc sdb [s0, .fz (pD q), .fz (.lst [T.d, Ti.d]), .fz Ti.d, .fz (pD (Ti.app q)), .no, .no, .no] = some (.nx [s0, .fz (pD r), .fz (.lst [T.d, Ti.d]), .fz Ti.d, l2, .no, .no, .no])) :
    sFor (fSq (fV 2)) (gN 3) sdf [s0, .fz (pD p), .fz (.lst [T.d, Ti.d]), .no, .no, .no, .no, .no] = some (.nx [s0, .fz (pD r), .fz (.lst [T.d, Ti.d]), .fz Ti.d, l2, .no, .no, .no]) := by
  simp [sdf, a1, w1, w2, a2]
theorem sd_5 {T Ti : Mt} {r : Int × Int} {s0 s3 s4 : Sl} (a3 : F_applied [T.d, pD r] = some (pD (T.app r))) (a4 : F_applied [Ti.d, pD r] = some (pD (Ti.app r))) :
    sd5 [s0, .fz (pD r), .fz (.lst [T.d, Ti.d]), s3, s4, .no, .no, .no] = some (.lst [pD r, pD (T.app r), pD (Ti.app r)]) := by
  simp [sd5, a3, a4]
theorem sd_6 {x y z : Int × Int} {s0 s1 s2 s3 s4 : Sl} :
    sd6 [s0, s1, s2, s3, s4, .fz (.lst [pD x, pD y, pD z]), .no, .no] = some (.lst [pD x, pD y, pD z, pD (negP x), pD (negP y), pD (negP z)]) := by
  simp [sd6, negP]
def settN (T : Mt) (p : Int × Int) : Option (Int × Int) := pnz (T.app p) fun l => match descN T 100 p l with
  | some q => pnz (T.inv.app q) fun l' => match descN T.inv 100 q l' with
    | some r => bestN (sixN T T.inv r)
    | none => none
  | none => none
theorem sett_ok {D : Int} {f : Fm} (hf : f.ok) (hD : D = f.D) {t u : Int} (hu : unitN D = some (t, u)) (hs : SmM (turnN f t u)) (hd : (turnN f t u).det = 1) {p x : Int × Int} (h : settN (turnN f t u) p = some x) : F_settled [f.d, pD p] = some (pD x) := by
  have e1 := turnN_ok hf hD hu
  generalize turnN f t u = T at e1 hs hd h
  have e2 : F_inverse_of [T.d] = some T.inv.d := inverse_ok hs.hp hs.hq hs.hr hs.hs hd
  have hs2 : SmM T.inv := ⟨hs.hs, by show (-T.q).natAbs < _; rw [Int.natAbs_neg]; exact hs.hq, by show (-T.r).natAbs < _; rw [Int.natAbs_neg]; exact hs.hr, hs.hp⟩
  unfold settN at h
  rw [pnz_eq] at h
  split at h
  · rename_i q z1
    rw [pnz_eq] at h
    split at h
    · rename_i r z2
      rw [sixN_eq] at h
      have a1 := Mt.app_ok hs p
      have a2 := Mt.app_ok hs2 q
      have a3 := Mt.app_ok hs r
      have a4 := Mt.app_ok hs2 r
      obtain ⟨l1, w1⟩ := desc_ok hs (.fz f.d) (.fz (.lst [T.d, T.inv.d])) .no .no .no z1
      obtain ⟨l2, w2⟩ := desc_ok hs2 (.fz f.d) (.fz (.lst [T.d, T.inv.d])) .no .no .no z2
      have b := best_ok h (by simp)
      have c1 := sd_for a1 a2 w1 w2
      have c2 := sd_5 (s0 := .fz f.d) (s3 := .fz T.inv.d) (s4 := l2) a3 a4
      have c3 := fun s0 s1 s2 s3 s4 => sd_6 (x := r) (y := T.app r) (z := T.inv.app r) (s0 := s0) (s1 := s1) (s2 := s2) (s3 := s3) (s4 := s4)
      have c4 : dMinK F_weight_of [pD r, pD (T.app r), pD (T.inv.app r), pD (negP r), pD (negP (T.app r)), pD (negP (T.inv.app r))] = some (pD x) := b
      have e0 : F_settled = runF (sSeq (sSetO 2 (fCons (fC F_turn_for (fCons (fV 0) (fNil))) (fNil))) (sSeq (sApp 2 (fC F_inverse_of (fCons (fIxL (fO 2) (fK (.int 0))) (fNil)))) (sFrz 2 (sSeq (sFor (fSq (fV 2)) (gN 3) sdf) (sSeq (sSet 5 sd5) (sSeq (sSet 5 sd6) (sRet (fC (dMinK F_weight_of) (fUn (fV 5)))))))))) 6 := rfl
      rw [e0]
      generalize sFor (fSq (fV 2)) (gN 3) sdf = SF at c1 ⊢
      generalize sd5 = S5 at c2 ⊢
      generalize sd6 = S6 at c3 ⊢
      simp [runF, e1, e2, c1, c2, c3, c4]
    · cases h
  · cases h
end L3
set_option maxHeartbeats 4000000
namespace L3
open PySem L2 RZ
/-! ### natives: families, boxes -/
def settsN (T : Mt) : List (Int × Int) → Option (List (Int × Int))
  | [] => some []
  | p :: ps => match settN T p with
    | some x => match settsN T ps with
      | some S => some (x :: S)
      | none => none
    | none => none
def pl (x : Int × Int) : List Int := [x.1, x.2]
def toP : List Int → Int × Int
  | [x, y] => (x, y)
  | _ => (0, 0)
theorem pl_map (S : List (Int × Int)) : S.map pD = (S.map pl).map tupI := by rw [List.map_map]; rfl
theorem setts_go {D : Int} {f : Fm} (hf : f.ok) (hD : D = f.D) {t u : Int} (hu : unitN D = some (t, u)) (hs : SmM (turnN f t u)) (hd : (turnN f t u).det = 1) (s1 : Sl) : ∀ (L S : List (Int × Int)), settsN (turnN f t u) L = some S → S.length = L.length ∧ lcGo (gN 2) fYes (fC F_settled (fCons (fV 0) (fCons (fV 2) fNil))) [.fz f.d, s1, .no] (L.map pD) = some (S.map pD)
  | [], S, h => by
    cases h
    exact ⟨rfl, rfl⟩
  | p :: ps, S, h => by
    unfold settsN at h
    split at h
    · rename_i x z1
      split at h
      · rename_i S1 z2
        cases h
        obtain ⟨l, e⟩ := setts_go hf hD hu hs hd s1 ps S1 z2
        have e1 := sett_ok hf hD hu hs hd z1
        exact ⟨by simp [l], by simp [e1, e]⟩
      · cases h
    · cases h
def sortN (S : List (Int × Int)) : List (Int × Int) := (sortT (dedupT (S.map pl))).map toP
def sortB (S : List (Int × Int)) : List (Int × Int) := (sortT (S.map pl)).map toP
theorem toP_pl (x : Int × Int) : toP (pl x) = x := rfl
theorem back_pl {ts : List (List Int)} {S : List (Int × Int)} (h : ∀ t ∈ ts, t ∈ S.map pl) : (ts.map toP).map pD = ts.map tupI := by
  rw [List.map_map]
  refine List.map_congr_left fun t ht => ?_
  obtain ⟨x, _, rfl⟩ := List.mem_map.mp (h t ht)
  rfl
theorem sortN_ok (S : List (Int × Int)) (h : S.length < 64) : dSortSet (S.map pD) = some (.lst ((sortN S).map pD)) := by
  unfold dSortSet
  rw [pl_map, tupsOf_tups]
  show (if ((S.map pl).length < 64 && (S.map pl).all fun t => !t.isEmpty) = true then some (Dat.lst ((sortT (dedupT (S.map pl))).map tupI)) else none) = _
  rw [if_pos]
  · unfold sortN
    rw [back_pl (S := S) fun t ht => dedupT_mem.mp ((sortT_perm _).mem_iff.mp ht)]
  · rw [Bool.and_eq_true]
    refine ⟨decide_eq_true (by rw [List.length_map]; exact h), List.all_eq_true.mpr fun t ht => ?_⟩
    obtain ⟨x, _, rfl⟩ := List.mem_map.mp ht
    rfl
theorem sortB_ok (S : List (Int × Int)) : dSortP (S.map pD) = some (.lst ((sortB S).map pD)) ∧ (sortB S).Perm S := by
  constructor
  · unfold dSortP
    rw [pl_map, tupsOf_tups]
    show (if ((S.map pl).all fun t => !t.isEmpty) = true then some (Dat.lst ((sortT (S.map pl)).map tupI)) else none) = _
    rw [if_pos]
    · unfold sortB
      rw [back_pl (S := S) fun t ht => (sortT_perm _).mem_iff.mp ht]
    · refine List.all_eq_true.mpr fun t ht => ?_
      obtain ⟨x, _, rfl⟩ := List.mem_map.mp ht
      rfl
  · have := (sortT_perm (S.map pl)).map toP
    rw [List.map_map] at this
    exact this.trans (by rw [show toP ∘ pl = id from rfl, List.map_id])
/-- the families, from the starts -/
def famN (D : Int) (f : Fm) (L : List (Int × Int)) : Option (List (Int × Int)) := match unitN D with
  | some (t, u) => mnz (turnN f t u) fun T => match smM T && decide (T.det = 1) with
    | true => match settsN T L with
      | some S => match Nat.blt S.length 64 with
        | true => some (sortN S)
        | false => none
      | none => none
    | false => none
  | none => none
theorem fam_ok {D : Int} (h : DD D) (hp : 0 < D) {f : Fm} (hf : f.ok) (hD : D = f.D) (hc : gcd3 f.a f.b f.c = 1) {N : Int} (hN : N ≠ 0) (hN' : N.natAbs ≤ 24) {L P : List (Int × Int)} (hs : startsN D f N = some L) (hF : famN D f L = some P) : F_families [f.d, .int N] = some (.tup (P.map pD)) := by
  have hD' : D < 640 := by have := h.hi; omega
  obtain ⟨ll, e1⟩ := starts_ok hD' hf hD hN hN' hs
  have d0 := disc_for f.a f.b f.c (by have := hf.ha; omega) hf.hb
  have d0' : F_discriminant_for [f.d] = some (.int D) := by rw [hD]; exact d0
  have e3 := content_ok (a := f.a) (b := f.b) (c := f.c) (by have := hf.ha; omega) hf.hb (by have := hf.hc; omega)
  rw [hc] at e3
  unfold famN at hF
  split at hF
  · rename_i t u z1
    rw [mnz_eq] at hF
    split at hF
    · rename_i z2
      rw [Bool.and_eq_true] at z2
      split at hF
      · rename_i S z3
        split at hF
        · rename_i z4
          cases hF
          obtain ⟨l, e2⟩ := setts_go hf hD z1 (smM_ok z2.1) (of_decide_eq_true z2.2) (.fz (.int N)) L S z3
          have e4 := sortN_ok S (Nat.le_of_ble_eq_true z4)
          have cb := check_bin h hf hD (.inl hp)
          have n0 : ¬ D < 0 := by omega
          have l2 : (L.map pD).length ≤ 100000 := by rw [List.length_map]; omega
          have fl : F_family_list [f.d, .int N] = some (.lst ((sortN S).map pD)) := by
            generalize L.map pD = Ls at e1 e2 l2
            generalize S.map pD = Ss at e2 e4
            simp [F_family_list, runF, s_family_list, e1, l2, e2, e4]
          have ct : F_check_turned [f.d] = some .non := by
            simp [F_check_turned, runF, s_check_turned, cb, d0', n0, F_check_primitive, s_check_primitive, e3]
          simp [F_families, runF, s_families, check_frm, check_num hN hN', ct, fl]
        · cases hF
      · cases hF
    · cases hF
  · cases hF
/-! ### the law's own gcd, proper points -/
abbrev lgc : En → Option Bool := fB (f2 dGt (fV 1) (fK (.int 0)))
abbrev lgb : En → Option Fl := sPar [0, 1] (bF (fV 1) (bF (f2 dMod (fC dInt (fCons (fV 0) fNil)) (fV 1)) (bNil)))
theorem lgcd_loop : ∀ (y x N : Nat), ∃ r, whileGo lgc lgb (N + y + 1) [.fz (.int x), .fz (.int y)] = some (.nx [.fz (.int (Nat.gcd x y : Nat)), r]) := by
  intro y
  induction y using Nat.strongRecOn with
  | ind y ih =>
    intro x N
    by_cases z : y = 0
    · subst z
      refine ⟨.fz (.int 0), ?_⟩
      simp [whileGo_s, lgc]
    · have hy : (y : Int) ≠ 0 := by omega
      have hy' : 0 < y := by omega
      have m := dMod_ok (i := (x : Int)) hy
      have lt : x % y < y := Nat.mod_lt _ hy'
      have e : (x : Int).fmod y = ((x % y : Nat) : Int) := by rw [Int.fmod_eq_emod_of_nonneg _ (by omega), Int.natCast_emod]
      obtain ⟨r, hr⟩ := ih (x % y) lt y (N + y - (x % y) - 1)
      refine ⟨r, ?_⟩
      have hn : N + y - (x % y) - 1 + (x % y) + 1 = N + y := by omega
      rw [hn] at hr
      have g : Nat.gcd y (x % y) = Nat.gcd x y := by rw [Nat.gcd_comm x y, Nat.gcd_rec y x, Nat.gcd_comm]
      rw [g] at hr
      rw [e] at m
      rw [Int.natCast_emod] at hr
      simp [whileGo_s, lgc, lgb, hy', m, hr]
theorem lgcd_ok {x y : Int} (h : y.natAbs < 900000) : F_law_gcd [.int x, .int y] = some (.int (Int.gcd x y : Nat)) := by
  obtain ⟨r, e⟩ := lgcd_loop y.natAbs x.natAbs (1000000 - y.natAbs - 1)
  have hn : 1000000 - y.natAbs - 1 + y.natAbs + 1 = 1000000 := by omega
  rw [hn] at e
  have w : sWhile lgc lgb [.fz (.int (x.natAbs : Nat)), .fz (.int (y.natAbs : Nat))] = some (.nx [.fz (.int (Nat.gcd x.natAbs y.natAbs : Nat)), r]) := e
  simp [F_law_gcd, runF, s_law_gcd, w]
  rfl
/-! ### proper points -/
def propB (x : Int × Int) : Bool := Nat.beq (Nat.gcd x.1.natAbs x.2.natAbs) 1
def smP (x : Int × Int) : Bool := Nat.blt x.2.natAbs 900000
theorem proper_go {s0 : Sl} : ∀ (P : List (Int × Int)), (∀ x ∈ P, smP x = true) → lcGo (gN 1) (fB (f2 dEq (fC F_law_gcd (fCons (fIxL (fSq (fV 1)) (fK (.int 0))) (fCons (fIxL (fSq (fV 1)) (fK (.int 1))) (fNil)))) (fK (.int 1)))) (fV 1) [s0, .no] (P.map pD) = some ((P.filter propB).map pD) := by
  intro P h
  refine lc_map pD propB pD P fun x hx => ⟨[s0, .fz (pD x)], rfl, ?_, fun _ => rfl⟩
  have g := lgcd_ok (x := x.1) (y := x.2) (Nat.le_of_ble_eq_true (h x hx))
  have e : (Int.gcd x.1 x.2 : Nat) = Nat.gcd x.1.natAbs x.2.natAbs := rfl
  unfold propB
  rw [e] at g
  simp [g]
  generalize x.1.natAbs.gcd x.2.natAbs = d
  cases z : Nat.beq d 1 with
  | true => have := Nat.eq_of_beq_eq_true z; rw [this]; rfl
  | false => have := Nat.ne_of_beq_eq_false z; rw [decide_eq_false]; omega
theorem proper_tup {P : List (Int × Int)} (h : ∀ x ∈ P, smP x = true) (hl : P.length ≤ 100000) : F_law_proper [.tup (P.map pD)] = some (.lst ((P.filter propB).map pD)) := by
  have e := proper_go (s0 := .fz (.tup (P.map pD))) P h
  have l : (P.map pD).length ≤ 100000 := by rw [List.length_map]; exact hl
  generalize P.map pD = Ps at e l
  simp [F_law_proper, runF, s_law_proper, l, e]
end L3
set_option maxHeartbeats 4000000
namespace L3
open PySem L2 RZ
/-! ### natives: boxes -/
theorem square_neg {v : Int} (h : v < 0) : F_is_square [.int v] = some (.bl false) := by
  have h' : ¬ 0 ≤ v := by omega
  simp [F_is_square, runF, s_is_square, h']
theorem rt_le : ((List.range 640).all fun v => Nat.ble (rt v) 32) = true := by decide +kernel
theorem square_ok {v : Nat} (h : v < 640) : F_is_square [.int v] = some (.bl (decide (((rt v : Nat) : Int) * (rt v : Nat) = v))) := by
  have r := root_ok h
  have b : rt v ≤ 32 := Nat.le_of_ble_eq_true (List.all_eq_true.mp rt_le v (List.mem_range.mpr h))
  have m := dMul_l (i := ((rt v : Nat) : Int)) (j := ((rt v : Nat) : Int)) (by omega)
  simp [F_is_square, runF, s_is_square, r, m]
theorem sortI0 : dSortI [] = some (.lst ((sortI []).map Dat.int)) := rfl
theorem sortI1 (x : Int) : dSortI [.int x] = some (.lst ((sortI [x]).map Dat.int)) := rfl
theorem sortI2 (x y : Int) : dSortI [.int x, .int y] = some (.lst ((sortI [x, y]).map Dat.int)) := rfl
/-- all x at which f gives N with this y; none where it is not looked at -/
def linesN (D : Int) (f : Fm) (N y : Int) : Option (List Int) := nz (D * y * y + 4 * f.a * N) fun v =>
  match decide (v < 0) with
  | true => some []
  | false => match Nat.blt v.toNat 640 with
    | true => (match decide (((rt v.toNat : Nat) : Int) * (rt v.toNat : Nat) = v) with
      | true => some (sortI (((if 0 < rt v.toNat then [-f.b * y - (rt v.toNat : Nat), -f.b * y + (rt v.toNat : Nat)] else [-f.b * y]).filter fun t => decide (t.fmod (2 * f.a) = 0)).map fun t => t.fdiv (2 * f.a)))
      | false => some [])
    | false => none
theorem lines_ok {D : Int} (h : DD D) {f : Fm} (hf : f.ok) (hD : D = f.D) {N y : Int} (hN' : N.natAbs ≤ 24) (hy : y.natAbs < 1000) {L : List Int} (hL : linesN D f N y = some L) : L.length ≤ 2 ∧ F_lines_at [f.d, .int N, .int y] = some (.lst (L.map Dat.int)) := by
  have d0 := disc_for f.a f.b f.c (by have := hf.ha; omega) hf.hb
  have d0' : F_discriminant_for [f.d] = some (.int D) := by rw [hD]; exact d0
  have hlo := h.lo
  have hhi := h.hi
  have ha := hf.ha
  have hb := hf.hb
  have a0 := hf.a0
  have m1 := dMul_r (i := D) (j := y) (by omega)
  have m2 := dMul_r (i := D * y) (j := y) (by omega)
  have m3 := dMul_l (i := 4) (j := f.a) (by decide)
  have m4 := dMul_l (i := 4 * f.a) (j := N) (by omega)
  have m5 := dMul_l (i := -f.b) (j := y) (by omega)
  have m6 := dMul_l (i := 2) (j := f.a) (by decide)
  have a2 : 2 * f.a ≠ 0 := by omega
  have d1 := fun x : Int => dMod_ok (i := x) a2
  have d2 := fun x : Int => dDiv_ok (i := x) a2 (by omega)
  have tk : fTakeT 2 (fProp P_coefficients (fV 0)) [.fz f.d, .fz (.int N), .fz (.int y), .no, .no, .no, .no, .no, .no] = some (.tup [.int f.a, .int f.b]) := by
    simp [coeffs_ok]
  unfold linesN at hL
  rw [nz_eq] at hL
  generalize hv : D * y * y + 4 * f.a * N = v at hL
  split at hL
  · rename_i z
    have z := of_decide_eq_true z
    cases hL
    refine ⟨by simp, ?_⟩
    have e := square_neg z
    simp [F_lines_at, runF, s_lines_at, coeffs_ok, d0', m1, m2, m3, m4, hv, e]
  · rename_i z
    have z := of_decide_eq_false z
    split at hL
    · rename_i z1
      have z1 : v.toNat < 640 := Nat.le_of_ble_eq_true z1
      have ev : ((v.toNat : Nat) : Int) = v := Int.toNat_of_nonneg (by omega)
      have e := square_ok z1
      have e2 := root_ok z1
      rw [ev] at e e2
      split at hL
      · rename_i z2
        rw [z2] at e
        cases hL
        by_cases hr : 0 < rt v.toNat
        · rw [if_pos hr]
          cases h1 : decide ((-f.b * y - ((rt v.toNat : Nat) : Int)).fmod (2 * f.a) = 0) <;> cases h2 : decide ((-f.b * y + ((rt v.toNat : Nat) : Int)).fmod (2 * f.a) = 0) <;>
            simp only [List.filter_cons, List.filter_nil, h1, h2, if_true, Bool.false_eq_true, if_false, List.map_cons, List.map_nil]
          · refine ⟨by rw [(sortI_perm _).length_eq]; simp, ?_⟩
            simp [F_lines_at, runF, s_lines_at, coeffs_ok, d0', m1, m2, m3, m4, hv, e, e2, hr, m5, m6, d1, d2, h1, h2, sortI0]
          · refine ⟨by rw [(sortI_perm _).length_eq]; simp, ?_⟩
            simp [F_lines_at, runF, s_lines_at, coeffs_ok, d0', m1, m2, m3, m4, hv, e, e2, hr, m5, m6, d1, d2, h1, h2, sortI1]
          · refine ⟨by rw [(sortI_perm _).length_eq]; simp, ?_⟩
            simp [F_lines_at, runF, s_lines_at, coeffs_ok, d0', m1, m2, m3, m4, hv, e, e2, hr, m5, m6, d1, d2, h1, h2, sortI1]
          · refine ⟨by rw [(sortI_perm _).length_eq]; exact Nat.le_refl 2, ?_⟩
            simp [F_lines_at, runF, s_lines_at, coeffs_ok, d0', m1, m2, m3, m4, hv, e, e2, hr, m5, m6, d1, d2, h1, h2, sortI2]
        · rw [if_neg hr]
          cases h1 : decide ((-f.b * y).fmod (2 * f.a) = 0) <;>
            simp only [List.filter_cons, List.filter_nil, h1, if_true, Bool.false_eq_true, if_false, List.map_cons, List.map_nil]
          · refine ⟨by rw [(sortI_perm _).length_eq]; simp, ?_⟩
            simp [F_lines_at, runF, s_lines_at, coeffs_ok, d0', m1, m2, m3, m4, hv, e, e2, hr, m5, m6, d1, d2, h1, sortI0]
          · refine ⟨by rw [(sortI_perm _).length_eq]; simp, ?_⟩
            simp [F_lines_at, runF, s_lines_at, coeffs_ok, d0', m1, m2, m3, m4, hv, e, e2, hr, m5, m6, d1, d2, h1, sortI1]
      · rename_i z2
        rw [z2] at e
        cases hL
        refine ⟨by simp, ?_⟩
        simp [F_lines_at, runF, s_lines_at, coeffs_ok, d0', m1, m2, m3, m4, hv, e]
    · cases hL
def boxGo (D : Int) (f : Fm) (N w : Int) : List Int → Option (List (Int × Int))
  | [] => some []
  | y :: ys => match linesN D f N y with
    | some L => match boxGo D f N w ys with
      | some R => some (((L.filter fun x => decide (-w ≤ x) && decide (x ≤ w)).map fun x => (x, y)) ++ R)
      | none => none
    | none => none
def yrng (w : Nat) : List Int := (List.range (2 * w + 1)).map fun i => -(w : Int) + (i : Nat)
def boxN (D : Int) (f : Fm) (N : Int) (w : Nat) : Option (List (Int × Int)) := boxGo D f N w (yrng w)
abbrev bxb : En → Option Fl := sExt 3 (fLc (fSq (fC F_lines_at (fCons (fV 0) (fCons (fV 1) (fCons (fV 4) (fNil)))))) (gN 5) (fB (fChain dLe dLe (f1 dNeg (fV 2)) (fV 5) (fV 2))) (fTup (fCons (fV 5) (fCons (fV 4) (fNil)))) [5])
theorem box_go {D : Int} (h : DD D) {f : Fm} (hf : f.ok) (hD : D = f.D) {N w : Int} (hN' : N.natAbs ≤ 24) : ∀ (ys : List Int) (R : List (Int × Int)) (acc : List Dat) (s4 : Sl), boxGo D f N w ys = some R → (∀ y ∈ ys, y.natAbs < 1000) → acc.length + 2 * ys.length < 100000 →
    R.length ≤ 2 * ys.length ∧ ∃ s4', forGo (gN 4) bxb (ys.map Dat.int) [.fz f.d, .fz (.int N), .fz (.int w), .ow acc, s4, .no] = some (.nx [.fz f.d, .fz (.int N), .fz (.int w), .ow (acc ++ R.map pD), s4', .no])
  | [], R, acc, s4, h1, _, _ => by
    cases h1
    exact ⟨by simp, s4, by simp⟩
  | y :: ys, R, acc, s4, h1, hy, hl => by
    unfold boxGo at h1
    split at h1
    · rename_i L z1
      split at h1
      · rename_i R1 z2
        cases h1
        obtain ⟨l1, e1⟩ := lines_ok h hf hD hN' (hy y (List.mem_cons_self ..)) z1
        have l2 : (L.filter fun x => decide (-w ≤ x) && decide (x ≤ w)).length ≤ 2 := Nat.le_trans (List.length_filter_le _ _) l1
        obtain ⟨l3, t4, e2⟩ := box_go h hf hD hN' ys R1 (acc ++ (L.filter fun x => decide (-w ≤ x) && decide (x ≤ w)).map fun x => pD (x, y)) (.fz (.int y)) z2 (fun x hx => hy x (List.mem_cons_of_mem _ hx)) (by simp at hl ⊢; omega)
        have c : lcGo (gN 5) (fB (fChain dLe dLe (f1 dNeg (fV 2)) (fV 5) (fV 2))) (fTup (fCons (fV 5) (fCons (fV 4) (fNil)))) [.fz f.d, .fz (.int N), .fz (.int w), .ow acc, .fz (.int y), .no] (L.map Dat.int) = some ((L.filter fun x => decide (-w ≤ x) && decide (x ≤ w)).map fun x => pD (x, y)) := by
          refine lc_map Dat.int (fun x => decide (-w ≤ x) && decide (x ≤ w)) (fun x => pD (x, y)) L fun x _ => ⟨[.fz f.d, .fz (.int N), .fz (.int w), .ow acc, .fz (.int y), .fz (.int x)], rfl, ?_, fun _ => by simp⟩
          cases q : decide (-w ≤ x) <;> simp [q]
        refine ⟨by simp at l2 ⊢; omega, t4, ?_⟩
        have ll : (L.map Dat.int).length ≤ 100000 := by rw [List.length_map]; omega
        have lg : acc.length + ((L.filter fun x => decide (-w ≤ x) && decide (x ≤ w)).map fun x => pD (x, y)).length ≤ 100000 := by rw [List.length_map]; simp at hl; omega
        have em : (((L.filter fun x => decide (-w ≤ x) && decide (x ≤ w)).map fun x => (x, y)) ++ R1).map pD = ((L.filter fun x => decide (-w ≤ x) && decide (x ≤ w)).map fun x => pD (x, y)) ++ R1.map pD := by rw [List.map_append, List.map_map]; rfl
        rw [em, ← List.append_assoc]
        generalize ((L.filter fun x => decide (-w ≤ x) && decide (x ≤ w)).map fun x => pD (x, y)) = Ps at c lg e2 ⊢
        generalize L.map Dat.int = Ls at e1 c ll
        rw [List.map_cons]
        simp only [ev_forc, ev_gN, List.set_cons_succ, List.set_cons_zero, Option.bind_some]
        have b : bxb [.fz f.d, .fz (.int N), .fz (.int w), .ow acc, .fz (.int y), .no] = some (.nx [.fz f.d, .fz (.int N), .fz (.int w), .ow (acc ++ Ps), .fz (.int y), .no]) := by
          simp [bxb, e1, ll, c, lg]
        rw [b]
        exact e2
      · cases h1
    · cases h1
theorem box_ok {D : Int} (h : DD D) {f : Fm} (hf : f.ok) (hD : D = f.D) (hp : 0 < D ∨ 0 < f.a) {N : Int} (hN : N ≠ 0) (hN' : N.natAbs ≤ 24) {w : Nat} (hw : w < 500) {R : List (Int × Int)} (hR : boxN D f N w = some R) : R.length < 10000 ∧ F_solutions_in_box [f.d, .int N, .int w] = some (.tup ((sortB R).map pD)) := by
  obtain ⟨l1, s4, e⟩ := box_go h hf hD hN' (yrng w) R [] .no hR (fun y hy => by
    obtain ⟨i, hi, rfl⟩ := List.mem_map.mp hy
    have := List.mem_range.mp hi
    omega) (by simp [yrng]; omega)
  have ly : (yrng w).length = 2 * w + 1 := by simp [yrng]
  refine ⟨by omega, ?_⟩
  have ir : irng (-(w : Int)) ((w : Int) + 1) = (yrng w).map Dat.int := by
    unfold irng yrng
    rw [List.map_map]
    have : ((w : Int) + 1 - -(w : Int)).toNat = 2 * w + 1 := by omega
    rw [this]
    rfl
  have rr : -1000000 ≤ -(w : Int) ∧ -(w : Int) ≤ 1000000 ∧ -1000000 ≤ (w : Int) + 1 ∧ (w : Int) + 1 ≤ 1000000 := by omega
  have b : F_is_between [.int (w : Int), .int 0, .int 1000] = some (.bl true) := by
    rw [between_ok]
    have h1 : (0 : Int) ≤ w := by omega
    have h2 : (w : Int) ≤ 1000 := by omega
    simp [h1, h2]
  have so := (sortB_ok R).1
  have bo : F_box_of [f.d, .int N, .int w] = some (.lst ((sortB R).map pD)) := by
    have e' : sFor (fRng2 (fCons (f1 dNeg (fV 2)) (fCons (f2 dAdd (fV 2) (fK (.int 1))) (fNil)))) (gN 4) bxb [.fz f.d, .fz (.int N), .fz (.int w), .ow [], .no, .no] = some (.nx [.fz f.d, .fz (.int N), .fz (.int w), .ow (R.map pD), s4, .no]) := by
      rw [List.nil_append] at e
      rw [← ir] at e
      simp only [ev_sFor]
      have : fRng2 (fCons (f1 dNeg (fV 2)) (fCons (f2 dAdd (fV 2) (fK (.int 1))) (fNil))) [.fz f.d, .fz (.int N), .fz (.int w), .ow [], .no, .no] = some (irng (-(w : Int)) ((w : Int) + 1)) := by
        simp [rr]
      rw [this]
      exact e
    have e0 : F_box_of = runF (sSeq (sSetO 3 (fNil)) (sSeq (sFor (fRng2 (fCons (f1 dNeg (fV 2)) (fCons (f2 dAdd (fV 2) (fK (.int 1))) (fNil)))) (gN 4) bxb) (sRet (fC dSortP (fO 3))))) 3 := rfl
    rw [e0]
    generalize sFor (fRng2 (fCons (f1 dNeg (fV 2)) (fCons (f2 dAdd (fV 2) (fK (.int 1))) (fNil)))) (gN 4) bxb = SF at e' ⊢
    generalize R.map pD = Rs at e' so
    simp [runF, e', so]
  simp [F_solutions_in_box, runF, s_solutions_in_box, check_frm, check_num hN hN', b, check_bin h hf hD hp, bo]
end L3
set_option maxHeartbeats 4000000
namespace L3
open PySem L2 RZ
/-! ### natives: what a class owns -/
theorem lroot_all : ((List.range 64).all fun v => isInt (F_law_root [.int (v : Nat)]) (rt v : Nat)) = true := by decide +kernel
theorem lroot_ok {v : Nat} (h : v < 64) : F_law_root [.int v] = some (.int (rt v)) :=
  isInt_ok (List.all_eq_true.mp lroot_all v (List.mem_range.mpr h))
theorem law_d_ok {f : Fm} (hf : f.ok) : F_law_d [ti f.a f.b f.c] = some (.int f.D) := by
  have m1 := dMul_l (i := f.b) (j := f.b) (by have := hf.hb; omega)
  have m2 := dMul_l (i := 4) (j := f.a) (by decide)
  have m3 := dMul_l (i := 4 * f.a) (j := f.c) (by have := hf.ha; omega)
  simp [F_law_d, runF, s_law_d, m1, m2, m3, Fm.D]
theorem maxL2 (a c : Int) : dMaxL [.int a, .int c] = some (.int (max a c)) := rfl
/-- are there families; how many proper points -/
def ownN (D : Int) (f : Fm) (N : Int) (L : List (Int × Int)) : Option (Bool × Nat) := match decide (0 < D) with
  | true => (match famN D f L with
    | some P => (match P.all smP && Nat.blt P.length 1000 with
      | true => some (P.isEmpty, (P.filter propB).length)
      | false => none)
    | none => none)
  | false => nz ((4 * max f.a f.c * (N.natAbs : Int)).fdiv (0 - D)) fun v => match decide (0 ≤ v) && Nat.blt v.toNat 64 with
    | true => (match boxN D f N (rt v.toNat + 1) with
      | some R => (match R.all smP with
        | true => some (true, (R.filter propB).length)
        | false => none)
      | none => none)
    | false => none
theorem own_ok {D : Int} (h : DD D) {f : Fm} (hf : f.ok) (hD : D = f.D) (hp : 0 < D ∨ 0 < f.a) (hc : gcd3 f.a f.b f.c = 1) {N : Int} (hN : N ≠ 0) (hN' : N.natAbs ≤ 24) {L : List (Int × Int)} (hs : startsN D f N = some L) {e : Bool} {k : Nat} (ho : ownN D f N L = some (e, k)) :
    ∃ P : List (Int × Int), P.length = k ∧ k < 100000 ∧ F_law_owned [f.d, ti f.a f.b f.c, .int N] = some (.lst (P.map pD)) ∧ (0 < D → ∃ Q : List (Int × Int), Q.isEmpty = e ∧ F_families [f.d, .int N] = some (.tup (Q.map pD))) := by
  have ld := law_d_ok hf
  rw [← hD] at ld
  unfold ownN at ho
  split at ho
  · rename_i z
    have z := of_decide_eq_true z
    split at ho
    · rename_i P z1
      split at ho
      · rename_i z2
        rw [Bool.and_eq_true] at z2
        simp only [Option.some.injEq, Prod.mk.injEq] at ho
        obtain ⟨rfl, rfl⟩ := ho
        have l := Nat.le_of_ble_eq_true z2.2
        have e1 := fam_ok h z hf hD hc hN hN' hs z1
        have e2 := proper_tup (P := P) (fun x hx => List.all_eq_true.mp z2.1 x hx) (by omega)
        refine ⟨P.filter propB, rfl, by have := List.length_filter_le propB P; omega, ?_, fun _ => ⟨P, rfl, e1⟩⟩
        simp [F_law_owned, runF, s_law_owned, ld, z, e1, e2]
      · cases ho
    · cases ho
  · rename_i z
    have z := of_decide_eq_false z
    rw [nz_eq] at ho
    split at ho
    · rename_i z1
      rw [Bool.and_eq_true] at z1
      have v0 := of_decide_eq_true z1.1
      have v1 : ((4 * max f.a f.c * (N.natAbs : Int)).fdiv (0 - D)).toNat < 64 := Nat.le_of_ble_eq_true z1.2
      generalize hv : (4 * max f.a f.c * (N.natAbs : Int)).fdiv (0 - D) = v at ho v0 v1
      split at ho
      · rename_i R z2
        split at ho
        · rename_i z3
          simp only [Option.some.injEq, Prod.mk.injEq] at ho
          obtain ⟨rfl, rfl⟩ := ho
          have rl : rt v.toNat ≤ 32 := Nat.le_of_ble_eq_true (List.all_eq_true.mp rt_le v.toNat (List.mem_range.mpr (by omega)))
          obtain ⟨lR, e1⟩ := box_ok h hf hD hp hN hN' (w := rt v.toNat + 1) (by omega) z2
          obtain ⟨-, pm⟩ := sortB_ok R
          have e2 := proper_tup (P := sortB R) (fun x hx => List.all_eq_true.mp z3 x (pm.mem_iff.mp hx)) (by rw [pm.length_eq]; omega)
          have r := lroot_ok v1
          rw [Int.toNat_of_nonneg v0] at r
          have m1 := dMul_l (i := 4) (j := max f.a f.c) (by decide)
          have m2 := dMul_l (i := 4 * max f.a f.c) (j := (N.natAbs : Int)) (by have := hf.ha; have := hf.hc; omega)
          have Dn : 0 - D ≠ 0 := by
            have := hf.D0
            have e : f.D = f.b * f.b - 4 * f.a * f.c := rfl
            rw [← e, ← hD] at this
            omega
          have d1 := dDiv_ok (i := 4 * max f.a f.c * (N.natAbs : Int)) (j := 0 - D) Dn (by have := h.lo; have := h.hi; omega)
          rw [hv, Int.zero_sub] at d1
          refine ⟨(sortB R).filter propB, (pm.filter propB).length_eq, by have := List.length_filter_le propB R; omega, ?_, fun q => absurd q z⟩
          have e1' : F_solutions_in_box [f.d, .int N, .int ((rt v.toNat : Nat) + 1)] = some (.tup ((sortB R).map pD)) := e1
          generalize (sortB R).map pD = Bs at e1' e2
          simp [F_law_owned, runF, s_law_owned, ld, z, maxL2, m1, m2, d1, r, e1', e2]
        · cases ho
      · cases ho
    · cases ho
/-! ### membership, the table of what is given -/
def memB (f : Fm) (L : List Fm) : Bool := L.any fun x => x.eq f
theorem memB_iff {f : Fm} {L : List Fm} : memB f L = true ↔ f ∈ L := by
  unfold memB
  rw [List.any_eq_true]
  constructor
  · rintro ⟨x, hx, e⟩
    rw [← Fm.eq_ok e]; exact hx
  · intro h
    exact ⟨f, h, decide_eq_true ⟨rfl, rfl, rfl⟩⟩
theorem memB_congr {f : Fm} {L L' : List Fm} (h : ∀ x, x ∈ L ↔ x ∈ L') : memB f L = memB f L' := by
  rw [Bool.eq_iff_iff, memB_iff, memB_iff, h]
theorem hits_ok (f : Fm) : ∀ L : List Fm, hitsF f.a f.b f.c (L.map Fm.d) = some (memB f L)
  | [] => rfl
  | x :: L => by
    show (hitsF f.a f.b f.c (L.map Fm.d)).bind _ = _
    rw [hits_ok f L]
    rfl
theorem in_ok (f : Fm) (L : List Fm) : dInF f.d (.tup (L.map Fm.d)) = some (.bl (memB f L)) := by
  show (hitsF f.a f.b f.c (L.map Fm.d)).bind _ = _
  rw [hits_ok]
  rfl
abbrev Giv := List (Int × List Fm)
abbrev givK (G : Giv) : List Int := G.map (·.1)
abbrev givV (G : Giv) : List Dat := G.map fun x => .tup (x.2.map Fm.d)
theorem get_giv : ∀ (G : Giv) (x : Int × List Fm), (givK G).Nodup → x ∈ G → getD x.1 (givK G) (givV G) = some (.tup (x.2.map Fm.d))
  | [], x, _, h => by cases h
  | y :: G, x, n, h => by
    have n' : y.1 ∉ givK G ∧ (givK G).Nodup := List.nodup_cons.mp n
    show (if y.1 = x.1 then some (Dat.tup (y.2.map Fm.d)) else getD x.1 (givK G) (givV G)) = _
    rcases List.mem_cons.mp h with q | q
    · rw [q, if_pos rfl]
    · rw [if_neg, get_giv G x n'.2 q]
      intro z
      exact n'.1 (z ▸ List.mem_map.mpr ⟨x, q, rfl⟩)
theorem bls_any (bs : List Bool) : dAny (bs.map Dat.bl) = some (.bl (bs.any id)) := by
  unfold dAny
  rw [blsOf_bls]
  rfl
theorem shaped_ttup (ts : List (List Int)) : SeqAt.shaped (.tuple (ts.map ptup)) = true := by
  have := depth_tups ts
  unfold SeqAt.shaped
  simp only [PyData.canLay0, lay_tups, PyData.depth, Bool.true_and]
  exact decide_eq_true (by omega)
theorem ne_tup (P : List (Int × Int)) : dNeD (.tup (P.map pD)) (.tup []) = some (.bl (!P.isEmpty)) := by
  unfold dNeD
  have e : pd (.tup (P.map pD)) = some (.tuple ((P.map pl).map ptup)) := by
    rw [pl_map]
    simp only [pd, pdL_tups]
    rfl
  have e2 : pd (.tup []) = some (.tuple []) := rfl
  have s1 : shp (.tuple ((P.map pl).map ptup)) = some (.tuple ((P.map pl).map ptup)) := by
    unfold shp
    rw [if_pos (shaped_ttup _)]
  have s2 : shp (.tuple []) = some (.tuple []) := by
    unfold shp
    rw [if_pos (by decide +kernel)]
  rw [e, e2]
  simp only [Option.bind_some, s1, s2]
  show some (Dat.bl (!PyData.eqv _ _)) = _
  cases P with
  | nil => simp [PyData.eqv, PyData.eqvAll]
  | cons x P => simp [PyData.eqv, PyData.eqvAll]
theorem one_ok {D : Int} (h : DD D) {f : Fm} (hf : f.ok) (hD : D = f.D) (hp : 0 < D ∨ 0 < f.a) (hc : gcd3 f.a f.b f.c = 1) (hl : leadN D f = some f) {N : Int} (hN : N ≠ 0) (hN' : N.natAbs ≤ 24) {L : List (Int × Int)} (hs : startsN D f N = some L) {e : Bool} {k : Nat} (ho : ownN D f N L = some (e, k))
    {x1 : Int × List Fm} {G : Giv} (h1 : x1.1 = 1) (hn : (givK (x1 :: G)).Nodup) (hlen : G.length ≤ 10) (c1 : (!L.isEmpty) = (x1 :: G).any fun x => memB f x.2) (c2 : 0 < D → (!e) = (x1 :: G).any fun x => memB f x.2) (c3 : (!decide (k = 0)) = memB f x1.2) :
    F_law_one_right [f.d, ti f.a f.b f.c, .int N, .dic (givK (x1 :: G)) (givV (x1 :: G))] = some (.bl true) := by
  obtain ⟨P, lP, kk, e1, e2⟩ := own_ok h hf hD hp hc hN hN' hs ho
  have e3 := is_solved_ok h hf hD hp hl hc hN hN' hs
  have ld := law_d_ok hf
  rw [← hD] at ld
  have lc : ∀ s4 : Sl, lcGo (gN 5) fYes (f2 dInF (fV 0) (f2 dIxD (fV 3) (fV 5))) [.fz f.d, .fz (ti f.a f.b f.c), .fz (.int N), .fz (.dic (givK (x1 :: G)) (givV (x1 :: G))), s4, .no] ((givK (x1 :: G)).map Dat.int) = some (((x1 :: G).map fun x => memB f x.2).map Dat.bl) := by
    intro s4
    rw [List.map_map, List.map_map]
    refine lc_all (fun x : Int × List Fm => Dat.int x.1) (fun x => Dat.bl (memB f x.2)) (x1 :: G) fun x hx => ⟨.fz f.d, [.fz (ti f.a f.b f.c), .fz (.int N), .fz (.dic (givK (x1 :: G)) (givV (x1 :: G))), s4, .fz (.int x.1)], rfl, ?_⟩
    have g := get_giv (x1 :: G) x hn hx
    simp only [ev_f2, ev_fV0, ev_fVs, Option.bind_some, dIxD, g, in_ok]
  have g1 := get_giv (x1 :: G) x1 hn (List.mem_cons_self ..)
  rw [h1] at g1
  have ba := bls_any ((x1 :: G).map fun x => memB f x.2)
  have ea : ((x1 :: G).map fun x => memB f x.2).any id = (x1 :: G).any fun x => memB f x.2 := by rw [List.any_map]; rfl
  rw [ea] at ba
  have lz : ((givK (x1 :: G)).map Dat.int).length ≤ 100000 := by simp; omega
  have nn := nenil_pD P
  have kP : (!P.isEmpty) = !decide (k = 0) := by
    rw [← lP]
    cases P <;> simp
  rw [kP, c3] at nn
  generalize (x1 :: G).any (fun x => memB f x.2) = due at c1 c2 ba
  generalize ((x1 :: G).map fun x => memB f x.2).map Dat.bl = Bs at lc ba
  have lc' := lc .no
  generalize hks : givK (x1 :: G) = ks at lc' lz g1
  generalize givV (x1 :: G) = vs at lc' g1
  rw [c1] at e3
  have ini : dInF f.d (.tup (x1.2.map Fm.d)) = some (.bl (memB f x1.2)) := in_ok f x1.2
  generalize x1.2.map Fm.d = V1 at g1 ini
  generalize memB f x1.2 = m1 at nn ini
  have ix : dIxD (.dic ks vs) (.int 1) = some (.tup V1) := g1
  rw [List.length_map] at lz
  by_cases z : 0 < D
  · obtain ⟨Q, q1, q2⟩ := e2 z
    have nt := ne_tup Q
    rw [q1, c2 z] at nt
    simp [F_law_one_right, runF, s_law_one_right, lz, lc', ba, e3, ld, z, q2, nt, e1, nn, ix, ini]
  · simp [F_law_one_right, runF, s_law_one_right, lz, lc', ba, e3, ld, z, e1, nn, ix, ini]
end L3
set_option maxHeartbeats 4000000
namespace L3
open PySem L2 RZ
/-! ### natives: rests -/
def restGo (D N : Int) : List Nat → Option Nat
  | [] => some 0
  | n :: ns => match decide (((n : Int) * n - D).fmod (4 * (N.natAbs : Int)) = 0) with
    | true => nz (((n : Int) * n - D).fdiv (4 * N)) fun l => match Nat.blt l.natAbs 900000 with
      | true => (match restGo D N ns with
        | some k => (match Nat.beq (Nat.gcd (Nat.gcd N.natAbs n) l.natAbs) 1 with
          | true => some (k + 1)
          | false => some k)
        | none => none)
      | false => none
    | false => restGo D N ns
abbrev reb : En → Option Fl := sIf (fB (f2 dEq (f2 dMod (fC dInt (fCons (f2 dSub (f2 dMul (fV 4) (fV 4)) (fV 0)) fNil)) (f2 dMul (fK (.int 4)) (fV 3))) (fK (.int 0)))) (sSeq (sSet 5 (f2 dDiv (f2 dSub (f2 dMul (fV 4) (fV 4)) (fV 0)) (f2 dMul (fK (.int 4)) (fV 1))))
  (sIf (fB (f2 dEq (fC F_law_gcd (fCons (fC F_law_gcd (fCons (fV 1) (fCons (fV 4) (fNil)))) (fCons (fV 5) (fNil)))) (fK (.int 1)))) (sSet 2 (f2 dAdd (fV 2) (fK (.int 1)))) (sNext))) (sNext)
theorem rest_go {D N : Int} (hN : N ≠ 0) (hN' : N.natAbs ≤ 24) : ∀ (ns : List Nat) (k : Nat) (acc : Int) (s4 s5 : Sl), restGo D N ns = some k → (∀ n ∈ ns, n < 1000) →
    ∃ s4' s5', forGo (gN 4) reb (ns.map fun i => Dat.int (i : Nat)) [.fz (.int D), .fz (.int N), .fz (.int acc), .fz (.int (N.natAbs : Nat)), s4, s5] = some (.nx [.fz (.int D), .fz (.int N), .fz (.int (acc + (k : Nat))), .fz (.int (N.natAbs : Nat)), s4', s5'])
  | [], k, acc, s4, s5, h, _ => by
    cases h
    exact ⟨s4, s5, by simp⟩
  | n :: ns, k, acc, s4, s5, h, hn => by
    have hb := hn n (List.mem_cons_self ..)
    have hn' : ∀ n ∈ ns, n < 1000 := fun x hx => hn x (List.mem_cons_of_mem _ hx)
    have m1 := dMul_l (i := (n : Int)) (j := (n : Int)) (by omega)
    have m2 := dMul_l (i := 4) (j := (N.natAbs : Int)) (by decide)
    have m3 := dMul_l (i := 4) (j := N) (by decide)
    have d1 := dMod_ok (i := (n : Int) * n - D) (j := 4 * (N.natAbs : Int)) (by omega)
    have d2 := dDiv_ok (i := (n : Int) * n - D) (j := 4 * N) (by omega) (by omega)
    unfold restGo at h
    split at h
    · rename_i z1
      have z1 := of_decide_eq_true z1
      rw [nz_eq] at h
      split at h
      · rename_i z2
        have z2 : (((n : Int) * n - D).fdiv (4 * N)).natAbs < 900000 := Nat.le_of_ble_eq_true z2
        have g1 := lgcd_ok (x := N) (y := (n : Int)) (by omega)
        have g2 := lgcd_ok (x := (Int.gcd N n : Nat)) (y := ((n : Int) * n - D).fdiv (4 * N)) z2
        have eg : Int.gcd ((Int.gcd N n : Nat) : Int) (((n : Int) * n - D).fdiv (4 * N)) = Nat.gcd (Nat.gcd N.natAbs n) (((n : Int) * n - D).fdiv (4 * N)).natAbs := rfl
        rw [eg] at g2
        generalize hl : ((n : Int) * n - D).fdiv (4 * N) = l at h z2 d2 g2
        split at h
        · rename_i k1 z3
          split at h
          · rename_i z4
            cases h
            have z4 := Nat.eq_of_beq_eq_true z4
            rw [z4] at g2
            obtain ⟨t4, t5, e⟩ := rest_go hN hN' ns k1 (acc + 1) (.fz (.int n)) (.fz (.int l)) z3 hn'
            refine ⟨t4, t5, ?_⟩
            have ek : acc + ((k1 + 1 : Nat) : Int) = acc + 1 + (k1 : Int) := by omega
            rw [ek]
            simp [reb, m1, m2, m3, d1, z1, d2, g1, g2, e]
          · rename_i z4
            cases h
            have z4 := Nat.ne_of_beq_eq_false z4
            obtain ⟨t4, t5, e⟩ := rest_go hN hN' ns k acc (.fz (.int n)) (.fz (.int l)) z3 hn'
            refine ⟨t4, t5, ?_⟩
            generalize Nat.gcd (Nat.gcd N.natAbs n) l.natAbs = d at g2 z4
            have z5 : ¬ (d : Int) = 1 := by omega
            simp [reb, m1, m2, m3, d1, z1, d2, g1, g2, z5, z4, e]
        · cases h
      · cases h
    · rename_i z1
      have z1 := of_decide_eq_false z1
      obtain ⟨t4, t5, e⟩ := rest_go hN hN' ns k acc (.fz (.int n)) s5 h hn'
      refine ⟨t4, t5, ?_⟩
      simp [reb, m1, m2, d1, z1, e]
def restN (D N : Int) : Option Nat := restGo D N (List.range (2 * N.natAbs))
theorem rest_ok {D N : Int} (hN : N ≠ 0) (hN' : N.natAbs ≤ 24) {k : Nat} (h : restN D N = some k) : F_law_rests [.int D, .int N] = some (.int (k : Nat)) := by
  obtain ⟨s4, s5, e⟩ := rest_go hN hN' (List.range (2 * N.natAbs)) k 0 .no .no h (fun n hn => by have := List.mem_range.mp hn; omega)
  have m := dMul_l (i := 2) (j := (N.natAbs : Int)) (by decide)
  have i : irng 0 (2 * (N.natAbs : Int)) = (List.range (2 * N.natAbs)).map fun i => Dat.int (i : Nat) := by
    rw [irng_0]
    congr 2
  have r : -1000000 ≤ 2 * (N.natAbs : Int) ∧ 2 * (N.natAbs : Int) ≤ 1000000 := by omega
  simp [F_law_rests, runF, s_law_rests, m, r, i]
  rw [e]
  simp
/-! ### natives: changed forms -/
def Mt.tr (M : Mt) : Mt := ⟨M.p, M.r, M.q, M.s⟩
def Fm.tb (f : Fm) : Mt := ⟨2 * f.a, f.b, f.b, 2 * f.c⟩
def chgN (f : Fm) (M : Mt) : Option Fm := mnz (M.tr.mul f.tb) fun A => mnz (A.mul M) fun B => nz (B.p.fdiv 2) fun a => nz (B.s.fdiv 2) fun c =>
  match smM M && (smM A && (decide (M.det = 1) && okF a B.q c)) with
  | true => some ⟨a, B.q, c⟩
  | false => none
theorem row_ok (x y : Int) (hx : x.natAbs < 2 ^ 40) (hy : y.natAbs < 2 ^ 40) : F_is_row [.tup [.int x, .int y], .int 2] = some (.bl true) := by
  have b : ∀ z : Int, z.natAbs < 2 ^ 40 → F_is_between [.int z, .int (-1000000000000000000000000000000000000000000000000000000000000000000000000000), .int 1000000000000000000000000000000000000000000000000000000000000000000000000000] = some (.bl true) := fun z hz => by
    rw [between_ok]
    have h1 : (-1000000000000000000000000000000000000000000000000000000000000000000000000000 : Int) ≤ z := by omega
    have h2 : z ≤ (1000000000000000000000000000000000000000000000000000000000000000000000000000 : Int) := by omega
    simp [h1, h2]
  have a : dAll [.bl true, .bl true] = some (.bl true) := rfl
  simp [F_is_row, runF, s_is_row, dIsi, b x hx, b y hy, a]
theorem chgN_ok {f g : Fm} {M : Mt} (hf : f.ok) (h : chgN f M = some g) : g.ok ∧ M_changed [f.d, M.d] = some g.d := by
  unfold chgN at h
  simp only [mnz_eq, nz_eq] at h
  split at h
  · rename_i z
    simp only [Bool.and_eq_true, decide_eq_true_eq] at z
    obtain ⟨z1, z2, z3, z4⟩ := z
    cases h
    have sM := smM_ok z1
    have sA := smM_ok z2
    have o := okF_ok z4
    have sT : SmM M.tr := ⟨sM.hp, sM.hr, sM.hq, sM.hs⟩
    refine ⟨o, ?_⟩
    have u : P_unknowns [f.d] = some (.int 2) := rfl
    have r1 := row_ok M.p M.q sM.hp sM.hq
    have r2 := row_ok M.r M.s sM.hr sM.hs
    have dt := det2 M.p M.q M.r M.s sM.hp sM.hq sM.hr sM.hs
    have z3' : M.p * M.s - M.q * M.r = 1 := z3
    rw [z3'] at dt
    have cc : F_check_change [f.d, M.d] = some .non := by
      simp [F_check_change, runF, s_check_change, dIsi, u, r1, r2, dt, intsOf]
    have t : F_turned [M.d] = some M.tr.d := by simp [F_turned, runF, s_turned, Mt.tr]
    have j1 := Mt.mul_ok f.tb sT
    have j2 := Mt.mul_ok M sA
    generalize hA : M.tr.mul f.tb = A at j1 j2 o z4
    generalize hB : A.mul M = B at j2 o z4
    have j1' : F_joined_tables [M.tr.d, tb2 (2 * f.a) f.b f.b (2 * f.c)] = some A.d := j1
    have ar : F_around [tb2 (2 * f.a) f.b f.b (2 * f.c), M.d] = some B.d := by
      simp [F_around, runF, s_around, t, j1', j2]
    have dv2 := fun x : Int => dDiv_ok (i := x) (j := 2) (by decide) (by decide)
    have dv1 := fun x : Int => (dDiv_ok (i := x) (j := 1) (by decide) (by decide)).trans (by rw [Int.fdiv_one])
    have pr : F_pairs_of [.int 2] = some (.lst datPairs) := F_pairs_of_2
    have cf : F_coefficients_for [B.d] = some (ti (B.p.fdiv 2) B.q (B.s.fdiv 2)) := by
      simp [F_coefficients_for, runF, s_coefficients_for, pr, datPairs, dv1, dv2]
    have fb : F_first_beyond [ti (B.p.fdiv 2) B.q (B.s.fdiv 2), .int 1000000000000] = some .non := by
      have b1 := o.ha
      have b2 := o.hb
      have b3 := o.hc
      have k1 : ¬ (1000000000000 : Int) < ((B.p.fdiv 2).natAbs : Int) := by omega
      have k2 : ¬ (1000000000000 : Int) < (B.q.natAbs : Int) := by omega
      have k3 : ¬ (1000000000000 : Int) < ((B.s.fdiv 2).natAbs : Int) := by omega
      simp [F_first_beyond, runF, s_first_beyond, k1, k2, k3]
    have fm := o.form
    have fo : F_form_of [ti (B.p.fdiv 2) B.q (B.s.fdiv 2)] = some (.frm (B.p.fdiv 2) B.q (B.s.fdiv 2)) := by
      simp [F_form_of, runF, s_form_of, fb, dNotN, fm]
    simp [M_changed, runF, s_m_changed, cc, ar, cf, fo]
  · cases h
end L3
set_option maxHeartbeats 4000000
namespace L3
open PySem L2 RZ
/-! ### the classes of the discriminants, run by the kernel with natives in the places of what costs -/
def E_root : List Dat → Option Dat := fun ds => match ds with
  | [.int v] => (match decide (0 ≤ v) && Nat.blt v.toNat 640 with
    | true => some (.int (rt v.toNat : Nat))
    | false => F_root_of ds)
  | _ => F_root_of ds
theorem E_root_eq : F_root_of = E_root := by
  funext ds
  unfold E_root
  split
  · rename_i v
    split
    · rename_i z
      rw [Bool.and_eq_true] at z
      have := root_ok (v := v.toNat) (Nat.le_of_ble_eq_true z.2)
      rwa [Int.toNat_of_nonneg (of_decide_eq_true z.1)] at this
    · rfl
  · rfl
def E_Form : List Dat → Option Dat := fun ds => match ds with
  | [.tup [.int a, .int b, .int c]] => nz a fun a => nz b fun b => nz c fun c => (match okF a b c with
    | true => some (.frm a b c)
    | false => F_Form ds)
  | _ => F_Form ds
theorem E_Form_eq : F_Form = E_Form := by
  funext ds
  unfold E_Form
  split
  · rename_i a b c
    simp only [nz_eq]
    split
    · rename_i z
      exact (okF_ok z).form
    · rfl
  · rfl
def E_isred : List Dat → Option Dat := fun ds => match ds with
  | [.frm a b c] => (match okF a b c with
    | true => some (.bl (isRed (D3 a b c) a b c))
    | false => F_is_reduced_form ds)
  | _ => F_is_reduced_form ds
theorem E_isred_eq : F_is_reduced_form = E_isred := by
  funext ds
  unfold E_isred
  split
  · rename_i a b c
    split
    · rename_i z
      have o := okF_ok z
      exact isRed_ok (by have := o.ha; omega) o.hb (by have := o.hc; omega)
    · rfl
  · rfl
def EP_content : List Dat → Option Dat := fun ds => match ds with
  | [.frm a b c] => (match okF a b c with
    | true => some (.int (gcd3 a b c : Nat))
    | false => P_content ds)
  | _ => P_content ds
theorem EP_content_eq : P_content = EP_content := by
  funext ds
  unfold EP_content
  split
  · rename_i a b c
    split
    · rename_i z
      have o := okF_ok z
      exact content_ok (by have := o.ha; omega) o.hb (by have := o.hc; omega)
    · rfl
  · rfl
def E_ring : List Dat → Option Dat := fun ds => match ds with
  | [.frm a b c] => nz (D3 a b c) fun D => (match okF a b c && decide (D < 640) with
    | true => (match ringOfN D ⟨a, b, c⟩ with
      | some L => some (.lst (L.map Fm.d))
      | none => F_ring_of ds)
    | false => F_ring_of ds)
  | _ => F_ring_of ds
theorem E_ring_eq : F_ring_of = E_ring := by
  funext ds
  unfold E_ring
  split
  · rename_i a b c
    rw [nz_eq]
    split
    · rename_i z
      rw [Bool.and_eq_true] at z
      split
      · rename_i L z2
        exact (ring_of_ok (f := ⟨a, b, c⟩) (of_decide_eq_true z.2) z2 (okF_ok z.1) rfl).2.2
      · rfl
    · rfl
  · rfl
def es_reduced_forms : En → Option Fl := sSeq (sSetO 2 (fNil))
  (sSeq (sSet 3 (fIf (fB (f2 dGt (fV 0) (fK (.int 0)))) (fC E_root (fCons (fV 0) (fNil))) (fC E_root (fCons (f2 dDiv (f1 dNeg (fV 0)) (fK (.int 3))) (fNil)))))
  (sSeq (sFor (fRng2 (fCons (fIf (fB (f2 dLt (fV 0) (fK (.int 0)))) (f1 dNeg (fV 3)) (fK (.int 1))) (fCons (f2 dAdd (fV 3) (fK (.int 1))) (fNil)))) (gN 4) (sIf (fB (f2 dEq (f2 dMod (f2 dSub (fV 4) (fV 0)) (fK (.int 2))) (fK (.int 0)))) (sSeq (sSet 5 (f2 dDiv (f2 dSub (f2 dMul (fV 4) (fV 4)) (fV 0)) (fK (.int 4))))
  (sFor (fSq (fC F_divisors_of (fCons (fC dAbs (fCons (fV 5) fNil)) (fNil)))) (gN 6) (sSeq (sSetO 7 (fCons (fC E_Form (fCons (fTup (fCons (fV 6) (fCons (fV 4) (fCons (f2 dDiv (fV 5) (fV 6)) (fNil))))) fNil)) (fNil)))
  (sSeq (sIf (fB (f2 dGt (fV 0) (fK (.int 0)))) (sApp 7 (fC E_Form (fCons (fTup (fCons (f1 dNeg (fV 6)) (fCons (fV 4) (fCons (f2 dDiv (f1 dNeg (fV 5)) (fV 6)) (fNil))))) fNil))) (sNext))
  (sExt 2 (fLc (fO 7) (gN 8) (fAnd (fB (fC E_isred (fCons (fV 8) (fNil)))) (fOr (fB (fV 1)) (fB (f2 dEq (fProp EP_content (fV 8)) (fK (.int 1)))))) (fV 8) [8])))))) (sNext)))
  (sRetO (fO 2))))
def E_reduced_forms : List Dat → Option Dat := fun as => runF es_reduced_forms 7 (as ++ [.bl false])
theorem E_reduced_eq : F_reduced_forms = E_reduced_forms := by
  unfold F_reduced_forms E_reduced_forms G_reduced_forms es_reduced_forms
  rw [← E_root_eq, ← E_Form_eq, ← E_isred_eq, ← EP_content_eq]
  rfl
def E_class_list : List Dat → Option Dat := runF (s_cl (fSq (fC E_reduced_forms (fCons (fV 0) fNil))) (gN 2) (fProp P_coefficients (fV 2)) (fV 2) P_coefficients E_ring) 4
theorem E_class_eq : F_class_list = E_class_list := by
  unfold F_class_list s_class_list E_class_list
  rw [E_reduced_eq, E_ring_eq]
def cls0 : List (Int × List Fm) := [(-120, [⟨1, 0, 30⟩, ⟨2, 0, 15⟩, ⟨3, 0, 10⟩, ⟨5, 0, 6⟩]), (-119, [⟨1, 1, 30⟩, ⟨2, -1, 15⟩, ⟨2, 1, 15⟩, ⟨3, -1, 10⟩, ⟨3, 1, 10⟩, ⟨4, -3, 8⟩, ⟨4, 3, 8⟩, ⟨5, -1, 6⟩, ⟨5, 1, 6⟩, ⟨6, 5, 6⟩]), (-116, [⟨1, 0, 29⟩, ⟨2, 2, 15⟩, ⟨3, -2, 10⟩, ⟨3, 2, 10⟩, ⟨5, -2, 6⟩, ⟨5, 2, 6⟩]), (-115, [⟨1, 1, 29⟩, ⟨5, 5, 7⟩]), (-112, [⟨1, 0, 28⟩, ⟨4, 0, 7⟩]), (-111, [⟨1, 1, 28⟩, ⟨2, -1, 14⟩, ⟨2, 1, 14⟩, ⟨3, 3, 10⟩, ⟨4, -1, 7⟩, ⟨4, 1, 7⟩, ⟨5, -3, 6⟩, ⟨5, 3, 6⟩]), (-108, [⟨1, 0, 27⟩, ⟨4, -2, 7⟩, ⟨4, 2, 7⟩]), (-107, [⟨1, 1, 27⟩, ⟨3, -1, 9⟩, ⟨3, 1, 9⟩]), (-104, [⟨1, 0, 26⟩, ⟨2, 0, 13⟩, ⟨3, -2, 9⟩, ⟨3, 2, 9⟩, ⟨5, -4, 6⟩, ⟨5, 4, 6⟩]), (-103, [⟨1, 1, 26⟩, ⟨2, -1, 13⟩, ⟨2, 1, 13⟩, ⟨4, -3, 7⟩, ⟨4, 3, 7⟩]), (-100, [⟨1, 0, 25⟩, ⟨2, 2, 13⟩]), (-99, [⟨1, 1, 25⟩, ⟨5, 1, 5⟩]), (-96, [⟨1, 0, 24⟩, ⟨3, 0, 8⟩, ⟨4, 4, 7⟩, ⟨5, 2, 5⟩]), (-95, [⟨1, 1, 24⟩, ⟨2, -1, 12⟩, ⟨2, 1, 12⟩, ⟨3, -1, 8⟩, ⟨3, 1, 8⟩, ⟨4, -1, 6⟩, ⟨4, 1, 6⟩, ⟨5, 5, 6⟩]), (-92, [⟨1, 0, 23⟩, ⟨3, -2, 8⟩, ⟨3, 2, 8⟩]), (-91, [⟨1, 1, 23⟩, ⟨5, 3, 5⟩]), (-88, [⟨1, 0, 22⟩, ⟨2, 0, 11⟩]), (-87, [⟨1, 1, 22⟩, ⟨2, -1, 11⟩, ⟨2, 1, 11⟩, ⟨3, 3, 8⟩, ⟨4, -3, 6⟩, ⟨4, 3, 6⟩]), (-84, [⟨1, 0, 21⟩, ⟨2, 2, 11⟩, ⟨3, 0, 7⟩, ⟨5, 4, 5⟩]), (-83, [⟨1, 1, 21⟩, ⟨3, -1, 7⟩, ⟨3, 1, 7⟩])]
def cls1 : List (Int × List Fm) := [(-80, [⟨1, 0, 20⟩, ⟨3, -2, 7⟩, ⟨3, 2, 7⟩, ⟨4, 0, 5⟩]), (-79, [⟨1, 1, 20⟩, ⟨2, -1, 10⟩, ⟨2, 1, 10⟩, ⟨4, -1, 5⟩, ⟨4, 1, 5⟩]), (-76, [⟨1, 0, 19⟩, ⟨4, -2, 5⟩, ⟨4, 2, 5⟩]), (-75, [⟨1, 1, 19⟩, ⟨3, 3, 7⟩]), (-72, [⟨1, 0, 18⟩, ⟨2, 0, 9⟩]), (-71, [⟨1, 1, 18⟩, ⟨2, -1, 9⟩, ⟨2, 1, 9⟩, ⟨3, -1, 6⟩, ⟨3, 1, 6⟩, ⟨4, -3, 5⟩, ⟨4, 3, 5⟩]), (-68, [⟨1, 0, 17⟩, ⟨2, 2, 9⟩, ⟨3, -2, 6⟩, ⟨3, 2, 6⟩]), (-67, [⟨1, 1, 17⟩]), (-64, [⟨1, 0, 16⟩, ⟨4, 4, 5⟩]), (-63, [⟨1, 1, 16⟩, ⟨2, -1, 8⟩, ⟨2, 1, 8⟩, ⟨4, 1, 4⟩]), (-60, [⟨1, 0, 15⟩, ⟨3, 0, 5⟩]), (-59, [⟨1, 1, 15⟩, ⟨3, -1, 5⟩, ⟨3, 1, 5⟩]), (-56, [⟨1, 0, 14⟩, ⟨2, 0, 7⟩, ⟨3, -2, 5⟩, ⟨3, 2, 5⟩]), (-55, [⟨1, 1, 14⟩, ⟨2, -1, 7⟩, ⟨2, 1, 7⟩, ⟨4, 3, 4⟩]), (-52, [⟨1, 0, 13⟩, ⟨2, 2, 7⟩]), (-51, [⟨1, 1, 13⟩, ⟨3, 3, 5⟩]), (-48, [⟨1, 0, 12⟩, ⟨3, 0, 4⟩]), (-47, [⟨1, 1, 12⟩, ⟨2, -1, 6⟩, ⟨2, 1, 6⟩, ⟨3, -1, 4⟩, ⟨3, 1, 4⟩]), (-44, [⟨1, 0, 11⟩, ⟨3, -2, 4⟩, ⟨3, 2, 4⟩]), (-43, [⟨1, 1, 11⟩])]
def cls2 : List (Int × List Fm) := [(-40, [⟨1, 0, 10⟩, ⟨2, 0, 5⟩]), (-39, [⟨1, 1, 10⟩, ⟨2, -1, 5⟩, ⟨2, 1, 5⟩, ⟨3, 3, 4⟩]), (-36, [⟨1, 0, 9⟩, ⟨2, 2, 5⟩]), (-35, [⟨1, 1, 9⟩, ⟨3, 1, 3⟩]), (-32, [⟨1, 0, 8⟩, ⟨3, 2, 3⟩]), (-31, [⟨1, 1, 8⟩, ⟨2, -1, 4⟩, ⟨2, 1, 4⟩]), (-28, [⟨1, 0, 7⟩]), (-27, [⟨1, 1, 7⟩]), (-24, [⟨1, 0, 6⟩, ⟨2, 0, 3⟩]), (-23, [⟨1, 1, 6⟩, ⟨2, -1, 3⟩, ⟨2, 1, 3⟩]), (-20, [⟨1, 0, 5⟩, ⟨2, 2, 3⟩]), (-19, [⟨1, 1, 5⟩]), (-16, [⟨1, 0, 4⟩]), (-15, [⟨1, 1, 4⟩, ⟨2, 1, 2⟩]), (-12, [⟨1, 0, 3⟩]), (-11, [⟨1, 1, 3⟩]), (-8, [⟨1, 0, 2⟩]), (-7, [⟨1, 1, 2⟩]), (-4, [⟨1, 0, 1⟩]), (-3, [⟨1, 1, 1⟩])]
def cls3 : List (Int × List Fm) := [(5, [⟨-1, 1, 1⟩]), (8, [⟨-1, 2, 1⟩]), (12, [⟨-2, 2, 1⟩, ⟨-1, 2, 2⟩]), (13, [⟨-1, 3, 1⟩]), (17, [⟨-2, 1, 2⟩]), (20, [⟨-1, 4, 1⟩]), (21, [⟨-3, 3, 1⟩, ⟨-1, 3, 3⟩]), (24, [⟨-2, 4, 1⟩, ⟨-1, 4, 2⟩]), (28, [⟨-3, 2, 2⟩, ⟨-2, 2, 3⟩]), (29, [⟨-1, 5, 1⟩]), (32, [⟨-4, 4, 1⟩, ⟨-1, 4, 4⟩]), (33, [⟨-3, 3, 2⟩, ⟨-2, 3, 3⟩]), (37, [⟨-3, 1, 3⟩]), (40, [⟨-3, 2, 3⟩, ⟨-1, 6, 1⟩]), (41, [⟨-4, 3, 2⟩]), (44, [⟨-2, 6, 1⟩, ⟨-1, 6, 2⟩]), (45, [⟨-5, 5, 1⟩, ⟨-1, 5, 5⟩]), (48, [⟨-3, 6, 1⟩, ⟨-1, 6, 3⟩]), (52, [⟨-4, 2, 3⟩]), (53, [⟨-1, 7, 1⟩])]
def cls4 : List (Int × List Fm) := [(56, [⟨-5, 4, 2⟩, ⟨-2, 4, 5⟩]), (57, [⟨-4, 3, 3⟩, ⟨-3, 3, 4⟩]), (60, [⟨-6, 6, 1⟩, ⟨-3, 6, 2⟩, ⟨-2, 6, 3⟩, ⟨-1, 6, 6⟩]), (61, [⟨-3, 5, 3⟩]), (65, [⟨-5, 5, 2⟩, ⟨-4, 1, 4⟩]), (68, [⟨-1, 8, 1⟩]), (69, [⟨-5, 3, 3⟩, ⟨-3, 3, 5⟩]), (72, [⟨-2, 8, 1⟩, ⟨-1, 8, 2⟩]), (73, [⟨-6, 5, 2⟩]), (76, [⟨-5, 4, 3⟩, ⟨-3, 4, 5⟩]), (77, [⟨-7, 7, 1⟩, ⟨-1, 7, 7⟩]), (80, [⟨-4, 8, 1⟩, ⟨-1, 8, 4⟩]), (84, [⟨-5, 2, 4⟩, ⟨-4, 2, 5⟩]), (85, [⟨-5, 5, 3⟩, ⟨-1, 9, 1⟩]), (88, [⟨-6, 4, 3⟩, ⟨-3, 4, 6⟩]), (89, [⟨-5, 3, 4⟩]), (92, [⟨-7, 6, 2⟩, ⟨-2, 6, 7⟩]), (93, [⟨-3, 9, 1⟩, ⟨-1, 9, 3⟩]), (96, [⟨-8, 8, 1⟩, ⟨-5, 4, 4⟩, ⟨-4, 4, 5⟩, ⟨-1, 8, 8⟩]), (97, [⟨-6, 5, 3⟩])]
def cls5 : List (Int × List Fm) := [(101, [⟨-5, 1, 5⟩]), (104, [⟨-5, 2, 5⟩, ⟨-1, 10, 1⟩]), (105, [⟨-7, 7, 2⟩, ⟨-6, 3, 4⟩, ⟨-4, 3, 6⟩, ⟨-2, 7, 7⟩]), (108, [⟨-2, 10, 1⟩, ⟨-1, 10, 2⟩]), (109, [⟨-7, 5, 3⟩]), (112, [⟨-4, 8, 3⟩, ⟨-3, 8, 4⟩]), (113, [⟨-8, 7, 2⟩]), (116, [⟨-5, 4, 5⟩]), (117, [⟨-9, 9, 1⟩, ⟨-1, 9, 9⟩]), (120, [⟨-7, 6, 3⟩, ⟨-5, 10, 1⟩, ⟨-3, 6, 7⟩, ⟨-1, 10, 5⟩])]
def clsT : List (Int × List Fm) := cls0 ++ cls1 ++ cls2 ++ cls3 ++ cls4 ++ cls5

def fmsB : List Dat → List Fm → Bool
  | [], [] => true
  | .frm a b c :: ds, f :: fs => Fm.eq ⟨a, b, c⟩ f && fmsB ds fs
  | _, _ => false
theorem fmsB_ok : ∀ {ds : List Dat} {fs : List Fm}, fmsB ds fs = true → ds = fs.map Fm.d
  | [], [], _ => rfl
  | [], _ :: _, h => by cases h
  | d :: ds, [], h => by cases d <;> cases h
  | d :: ds, f :: fs, h => by
    cases d with
    | frm a b c =>
      have h : (Fm.eq ⟨a, b, c⟩ f && fmsB ds fs) = true := h
      rw [Bool.and_eq_true] at h
      rw [List.map_cons, ← fmsB_ok h.2, ← Fm.eq_ok h.1]
    | _ => cases h
def isFms (x : Option Dat) (fs : List Fm) : Bool := match x with
  | some (.lst ds) => fmsB ds fs
  | _ => false
theorem isFms_ok {x : Option Dat} {fs : List Fm} (h : isFms x fs = true) : x = some (.lst (fs.map Fm.d)) := by
  unfold isFms at h
  split at h
  · rw [fmsB_ok h]
  · cases h
theorem cls_all : (clsT.all fun x => isFms (E_class_list [.int x.1]) x.2) = true := by decide +kernel
theorem cls_in : ((List.range 241).all fun i : Nat => !isD ((i : Int) - 120) || clsT.any fun x => decide (x.1 = (i : Int) - 120)) = true := by decide +kernel
theorem classes_ok {D : Int} (h : DD D) : ∃ fs, (D, fs) ∈ clsT ∧ F_classes [.int D] = some (.tup (fs.map Fm.d)) := by
  have hlo := h.lo
  have hhi := h.hi
  have e := List.all_eq_true.mp cls_in (D + 120).toNat (List.mem_range.mpr (by omega))
  have ed : (((D + 120).toNat : Nat) : Int) - 120 = D := by omega
  rw [ed, h.d] at e
  obtain ⟨x, hx, e1⟩ := List.any_eq_true.mp (show (clsT.any fun x => decide (x.1 = D)) = true from e)
  have e1 := of_decide_eq_true e1
  have e2 := isFms_ok (List.all_eq_true.mp cls_all x hx)
  rw [← E_class_eq, e1] at e2
  refine ⟨x.2, by rw [← e1]; exact hx, ?_⟩
  simp [F_classes, runF, s_classes, check_disc h, e2]
end L3
set_option maxHeartbeats 4000000
namespace L3
open PySem L2 RZ
/-! ### the check that the kernel runs -/
def givN (D N : Int) : List Int → Option (List (Int × List Fm))
  | [] => some []
  | k :: ks => nz (N.fdiv (k * k)) fun n => match !decide (n = 0) && Nat.blt n.natAbs 1000 with
    | true => match goalsN D n with
      | some gs => match leadsN D gs with
        | some L => match givN D N ks with
          | some G => some ((k, L) :: G)
          | none => none
        | none => none
      | none => none
    | false => none
def anyG (f : Fm) (G : List (Int × List Fm)) : Bool := G.any fun x => memB f x.2
def oneN (D : Int) (f : Fm) (N : Int) (G : List (Int × List Fm)) (m1 : Bool) : Option Nat := match startsN D f N with
  | some L => match ownN D f N L with
    | some (e, k) => match ((!L.isEmpty) == anyG f G) && ((!decide (0 < D) || ((!e) == anyG f G)) && ((!decide (k = 0)) == m1)) with
      | true => some k
      | false => none
    | none => none
  | none => none
def tallyN (D N : Int) (G : List (Int × List Fm)) (L1 : List Fm) : List Fm → Option Nat
  | [] => some 0
  | f :: fs => match oneN D f N G (memB f L1) with
    | some k => match tallyN D N G L1 fs with
      | some m => some (k + m)
      | none => none
    | none => none
def dueN (D N : Int) (r : Nat) : Nat := match decide (D < 0) with
  | true => (match decide (0 < N) with
    | true => r * (if D = -4 then 4 else if D = -3 then 6 else 2)
    | false => 0)
  | false => r
def okDN (D N : Int) (fs : List Fm) : Bool := match givN D N (sqp N) with
  | some ((1, L1) :: G) => (match tallyN D N ((1, L1) :: G) L1 fs with
    | some k => (match restN D N with
      | some r => Nat.beq k (dueN D N r)
      | none => false)
    | none => false)
  | _ => false
/-- what holds of each leading form -/
def clsOk (D : Int) (f : Fm) : Bool := okF f.a f.b f.c && (decide (D = f.D) && ((decide (0 < D) || decide (0 < f.a)) && (Nat.beq (gcd3 f.a f.b f.c) 1 && (match leadN D f with
  | some g => g.eq f
  | none => false))))
theorem clsOk_all : (clsT.all fun x => x.2.all fun f => clsOk x.1 f) = true := by decide +kernel
end L3
set_option maxHeartbeats 4000000
namespace L3
open PySem L2 RZ
/-! ### the drawn changes -/
/-- f behind the change 0 -1, 1 k -/
def Fm.ap (f : Fm) (k : Int) : Fm := ⟨f.c, -f.b + 2 * f.c * k, f.a - f.b * k + f.c * k * k⟩
def fnz {α : Type} (f : Fm) (k : Fm → α) : α := nz f.a fun a => nz f.b fun b => nz f.c fun c => k ⟨a, b, c⟩
theorem fnz_eq {α : Type} (f : Fm) (k : Fm → α) : fnz f k = k f := by
  unfold fnz
  simp only [nz_eq]
def five : List Int := [-2, -1, 0, 1, 2]
def nodeOk (D : Int) (R : List Fm) (g : Fm) : Bool := okF g.a g.b g.c && ((decide (0 < D) || decide (0 < g.a)) && (Nat.beq (gcd3 g.a g.b g.c) 1 && (match redN D 60 g .one with
  | some (r, _) => R.any fun x => r.eq x
  | none => false)))
def treeOk (D : Int) (R : List Fm) : Nat → Fm → Bool
  | 0, _ => true
  | n + 1, h => five.all fun k => fnz (h.ap k) fun g => nodeOk D R g && treeOk D R n g
def isLead (D : Int) (f r : Fm) : Bool := match leadN D r with
  | some g => g.eq f
  | none => false
def okTree (D : Int) (f : Fm) : Bool := match ringOfN D f with
  | some R => R.all (isLead D f) && treeOk D R 3 f
  | none => false
def okTurn (D : Int) (f : Fm) : Bool := match decide (0 < D) with
  | true => (match unitN D with
    | some (t, u) => mnz (turnN f t u) fun T => (match chgN f T with
      | some g => g.eq f
      | none => false)
    | none => false)
  | false => true
theorem okTurn_all : (clsT.all fun x => x.2.all fun f => okTurn x.1 f) = true := by decide +kernel
end L3
set_option maxHeartbeats 4000000
namespace L3
open PySem L2 RZ
/-! ### the checks, run by the kernel, one discriminant at a time -/
theorem all_c {p : Int × List Fm → Bool} {x : Int × List Fm} {xs : List (Int × List Fm)} (h : p x = true) (t : xs.all p = true) : (x :: xs).all p = true := by
  rw [List.all_cons, h, t]; rfl
abbrev pDN (x : Int × List Fm) : Bool := Nums.all fun N => okDN x.1 N x.2
abbrev pTr (x : Int × List Fm) : Bool := x.2.all (okTree x.1)
theorem oD0 : pDN (-120, [⟨1, 0, 30⟩, ⟨2, 0, 15⟩, ⟨3, 0, 10⟩, ⟨5, 0, 6⟩]) = true := by decide +kernel
theorem oT0 : pTr (-120, [⟨1, 0, 30⟩, ⟨2, 0, 15⟩, ⟨3, 0, 10⟩, ⟨5, 0, 6⟩]) = true := by decide +kernel
theorem oD1 : pDN (-119, [⟨1, 1, 30⟩, ⟨2, -1, 15⟩, ⟨2, 1, 15⟩, ⟨3, -1, 10⟩, ⟨3, 1, 10⟩, ⟨4, -3, 8⟩, ⟨4, 3, 8⟩, ⟨5, -1, 6⟩, ⟨5, 1, 6⟩, ⟨6, 5, 6⟩]) = true := by decide +kernel
theorem oT1 : pTr (-119, [⟨1, 1, 30⟩, ⟨2, -1, 15⟩, ⟨2, 1, 15⟩, ⟨3, -1, 10⟩, ⟨3, 1, 10⟩, ⟨4, -3, 8⟩, ⟨4, 3, 8⟩, ⟨5, -1, 6⟩, ⟨5, 1, 6⟩, ⟨6, 5, 6⟩]) = true := by decide +kernel
theorem oD2 : pDN (-116, [⟨1, 0, 29⟩, ⟨2, 2, 15⟩, ⟨3, -2, 10⟩, ⟨3, 2, 10⟩, ⟨5, -2, 6⟩, ⟨5, 2, 6⟩]) = true := by decide +kernel
theorem oT2 : pTr (-116, [⟨1, 0, 29⟩, ⟨2, 2, 15⟩, ⟨3, -2, 10⟩, ⟨3, 2, 10⟩, ⟨5, -2, 6⟩, ⟨5, 2, 6⟩]) = true := by decide +kernel
theorem oD3 : pDN (-115, [⟨1, 1, 29⟩, ⟨5, 5, 7⟩]) = true := by decide +kernel
theorem oT3 : pTr (-115, [⟨1, 1, 29⟩, ⟨5, 5, 7⟩]) = true := by decide +kernel
theorem oD4 : pDN (-112, [⟨1, 0, 28⟩, ⟨4, 0, 7⟩]) = true := by decide +kernel
theorem oT4 : pTr (-112, [⟨1, 0, 28⟩, ⟨4, 0, 7⟩]) = true := by decide +kernel
theorem oD5 : pDN (-111, [⟨1, 1, 28⟩, ⟨2, -1, 14⟩, ⟨2, 1, 14⟩, ⟨3, 3, 10⟩, ⟨4, -1, 7⟩, ⟨4, 1, 7⟩, ⟨5, -3, 6⟩, ⟨5, 3, 6⟩]) = true := by decide +kernel
theorem oT5 : pTr (-111, [⟨1, 1, 28⟩, ⟨2, -1, 14⟩, ⟨2, 1, 14⟩, ⟨3, 3, 10⟩, ⟨4, -1, 7⟩, ⟨4, 1, 7⟩, ⟨5, -3, 6⟩, ⟨5, 3, 6⟩]) = true := by decide +kernel
theorem oD6 : pDN (-108, [⟨1, 0, 27⟩, ⟨4, -2, 7⟩, ⟨4, 2, 7⟩]) = true := by decide +kernel
theorem oT6 : pTr (-108, [⟨1, 0, 27⟩, ⟨4, -2, 7⟩, ⟨4, 2, 7⟩]) = true := by decide +kernel
theorem oD7 : pDN (-107, [⟨1, 1, 27⟩, ⟨3, -1, 9⟩, ⟨3, 1, 9⟩]) = true := by decide +kernel
theorem oT7 : pTr (-107, [⟨1, 1, 27⟩, ⟨3, -1, 9⟩, ⟨3, 1, 9⟩]) = true := by decide +kernel
theorem oD8 : pDN (-104, [⟨1, 0, 26⟩, ⟨2, 0, 13⟩, ⟨3, -2, 9⟩, ⟨3, 2, 9⟩, ⟨5, -4, 6⟩, ⟨5, 4, 6⟩]) = true := by decide +kernel
theorem oT8 : pTr (-104, [⟨1, 0, 26⟩, ⟨2, 0, 13⟩, ⟨3, -2, 9⟩, ⟨3, 2, 9⟩, ⟨5, -4, 6⟩, ⟨5, 4, 6⟩]) = true := by decide +kernel
theorem oD9 : pDN (-103, [⟨1, 1, 26⟩, ⟨2, -1, 13⟩, ⟨2, 1, 13⟩, ⟨4, -3, 7⟩, ⟨4, 3, 7⟩]) = true := by decide +kernel
theorem oT9 : pTr (-103, [⟨1, 1, 26⟩, ⟨2, -1, 13⟩, ⟨2, 1, 13⟩, ⟨4, -3, 7⟩, ⟨4, 3, 7⟩]) = true := by decide +kernel
theorem oD10 : pDN (-100, [⟨1, 0, 25⟩, ⟨2, 2, 13⟩]) = true := by decide +kernel
theorem oT10 : pTr (-100, [⟨1, 0, 25⟩, ⟨2, 2, 13⟩]) = true := by decide +kernel
theorem oD11 : pDN (-99, [⟨1, 1, 25⟩, ⟨5, 1, 5⟩]) = true := by decide +kernel
theorem oT11 : pTr (-99, [⟨1, 1, 25⟩, ⟨5, 1, 5⟩]) = true := by decide +kernel
theorem oD12 : pDN (-96, [⟨1, 0, 24⟩, ⟨3, 0, 8⟩, ⟨4, 4, 7⟩, ⟨5, 2, 5⟩]) = true := by decide +kernel
theorem oT12 : pTr (-96, [⟨1, 0, 24⟩, ⟨3, 0, 8⟩, ⟨4, 4, 7⟩, ⟨5, 2, 5⟩]) = true := by decide +kernel
theorem oD13 : pDN (-95, [⟨1, 1, 24⟩, ⟨2, -1, 12⟩, ⟨2, 1, 12⟩, ⟨3, -1, 8⟩, ⟨3, 1, 8⟩, ⟨4, -1, 6⟩, ⟨4, 1, 6⟩, ⟨5, 5, 6⟩]) = true := by decide +kernel
theorem oT13 : pTr (-95, [⟨1, 1, 24⟩, ⟨2, -1, 12⟩, ⟨2, 1, 12⟩, ⟨3, -1, 8⟩, ⟨3, 1, 8⟩, ⟨4, -1, 6⟩, ⟨4, 1, 6⟩, ⟨5, 5, 6⟩]) = true := by decide +kernel
theorem oD14 : pDN (-92, [⟨1, 0, 23⟩, ⟨3, -2, 8⟩, ⟨3, 2, 8⟩]) = true := by decide +kernel
theorem oT14 : pTr (-92, [⟨1, 0, 23⟩, ⟨3, -2, 8⟩, ⟨3, 2, 8⟩]) = true := by decide +kernel
theorem oD15 : pDN (-91, [⟨1, 1, 23⟩, ⟨5, 3, 5⟩]) = true := by decide +kernel
theorem oT15 : pTr (-91, [⟨1, 1, 23⟩, ⟨5, 3, 5⟩]) = true := by decide +kernel
theorem oD16 : pDN (-88, [⟨1, 0, 22⟩, ⟨2, 0, 11⟩]) = true := by decide +kernel
theorem oT16 : pTr (-88, [⟨1, 0, 22⟩, ⟨2, 0, 11⟩]) = true := by decide +kernel
theorem oD17 : pDN (-87, [⟨1, 1, 22⟩, ⟨2, -1, 11⟩, ⟨2, 1, 11⟩, ⟨3, 3, 8⟩, ⟨4, -3, 6⟩, ⟨4, 3, 6⟩]) = true := by decide +kernel
theorem oT17 : pTr (-87, [⟨1, 1, 22⟩, ⟨2, -1, 11⟩, ⟨2, 1, 11⟩, ⟨3, 3, 8⟩, ⟨4, -3, 6⟩, ⟨4, 3, 6⟩]) = true := by decide +kernel
theorem oD18 : pDN (-84, [⟨1, 0, 21⟩, ⟨2, 2, 11⟩, ⟨3, 0, 7⟩, ⟨5, 4, 5⟩]) = true := by decide +kernel
theorem oT18 : pTr (-84, [⟨1, 0, 21⟩, ⟨2, 2, 11⟩, ⟨3, 0, 7⟩, ⟨5, 4, 5⟩]) = true := by decide +kernel
theorem oD19 : pDN (-83, [⟨1, 1, 21⟩, ⟨3, -1, 7⟩, ⟨3, 1, 7⟩]) = true := by decide +kernel
theorem oT19 : pTr (-83, [⟨1, 1, 21⟩, ⟨3, -1, 7⟩, ⟨3, 1, 7⟩]) = true := by decide +kernel
theorem okDN0 : cls0.all pDN = true := all_c oD0 <| all_c oD1 <| all_c oD2 <| all_c oD3 <| all_c oD4 <| all_c oD5 <| all_c oD6 <| all_c oD7 <| all_c oD8 <| all_c oD9 <| all_c oD10 <| all_c oD11 <| all_c oD12 <| all_c oD13 <| all_c oD14 <| all_c oD15 <| all_c oD16 <| all_c oD17 <| all_c oD18 <| all_c oD19 <| rfl
theorem okTr0 : cls0.all pTr = true := all_c oT0 <| all_c oT1 <| all_c oT2 <| all_c oT3 <| all_c oT4 <| all_c oT5 <| all_c oT6 <| all_c oT7 <| all_c oT8 <| all_c oT9 <| all_c oT10 <| all_c oT11 <| all_c oT12 <| all_c oT13 <| all_c oT14 <| all_c oT15 <| all_c oT16 <| all_c oT17 <| all_c oT18 <| all_c oT19 <| rfl
theorem oD20 : pDN (-80, [⟨1, 0, 20⟩, ⟨3, -2, 7⟩, ⟨3, 2, 7⟩, ⟨4, 0, 5⟩]) = true := by decide +kernel
theorem oT20 : pTr (-80, [⟨1, 0, 20⟩, ⟨3, -2, 7⟩, ⟨3, 2, 7⟩, ⟨4, 0, 5⟩]) = true := by decide +kernel
theorem oD21 : pDN (-79, [⟨1, 1, 20⟩, ⟨2, -1, 10⟩, ⟨2, 1, 10⟩, ⟨4, -1, 5⟩, ⟨4, 1, 5⟩]) = true := by decide +kernel
theorem oT21 : pTr (-79, [⟨1, 1, 20⟩, ⟨2, -1, 10⟩, ⟨2, 1, 10⟩, ⟨4, -1, 5⟩, ⟨4, 1, 5⟩]) = true := by decide +kernel
theorem oD22 : pDN (-76, [⟨1, 0, 19⟩, ⟨4, -2, 5⟩, ⟨4, 2, 5⟩]) = true := by decide +kernel
theorem oT22 : pTr (-76, [⟨1, 0, 19⟩, ⟨4, -2, 5⟩, ⟨4, 2, 5⟩]) = true := by decide +kernel
theorem oD23 : pDN (-75, [⟨1, 1, 19⟩, ⟨3, 3, 7⟩]) = true := by decide +kernel
theorem oT23 : pTr (-75, [⟨1, 1, 19⟩, ⟨3, 3, 7⟩]) = true := by decide +kernel
theorem oD24 : pDN (-72, [⟨1, 0, 18⟩, ⟨2, 0, 9⟩]) = true := by decide +kernel
theorem oT24 : pTr (-72, [⟨1, 0, 18⟩, ⟨2, 0, 9⟩]) = true := by decide +kernel
theorem oD25 : pDN (-71, [⟨1, 1, 18⟩, ⟨2, -1, 9⟩, ⟨2, 1, 9⟩, ⟨3, -1, 6⟩, ⟨3, 1, 6⟩, ⟨4, -3, 5⟩, ⟨4, 3, 5⟩]) = true := by decide +kernel
theorem oT25 : pTr (-71, [⟨1, 1, 18⟩, ⟨2, -1, 9⟩, ⟨2, 1, 9⟩, ⟨3, -1, 6⟩, ⟨3, 1, 6⟩, ⟨4, -3, 5⟩, ⟨4, 3, 5⟩]) = true := by decide +kernel
theorem oD26 : pDN (-68, [⟨1, 0, 17⟩, ⟨2, 2, 9⟩, ⟨3, -2, 6⟩, ⟨3, 2, 6⟩]) = true := by decide +kernel
theorem oT26 : pTr (-68, [⟨1, 0, 17⟩, ⟨2, 2, 9⟩, ⟨3, -2, 6⟩, ⟨3, 2, 6⟩]) = true := by decide +kernel
theorem oD27 : pDN (-67, [⟨1, 1, 17⟩]) = true := by decide +kernel
theorem oT27 : pTr (-67, [⟨1, 1, 17⟩]) = true := by decide +kernel
theorem oD28 : pDN (-64, [⟨1, 0, 16⟩, ⟨4, 4, 5⟩]) = true := by decide +kernel
theorem oT28 : pTr (-64, [⟨1, 0, 16⟩, ⟨4, 4, 5⟩]) = true := by decide +kernel
theorem oD29 : pDN (-63, [⟨1, 1, 16⟩, ⟨2, -1, 8⟩, ⟨2, 1, 8⟩, ⟨4, 1, 4⟩]) = true := by decide +kernel
theorem oT29 : pTr (-63, [⟨1, 1, 16⟩, ⟨2, -1, 8⟩, ⟨2, 1, 8⟩, ⟨4, 1, 4⟩]) = true := by decide +kernel
theorem oD30 : pDN (-60, [⟨1, 0, 15⟩, ⟨3, 0, 5⟩]) = true := by decide +kernel
theorem oT30 : pTr (-60, [⟨1, 0, 15⟩, ⟨3, 0, 5⟩]) = true := by decide +kernel
theorem oD31 : pDN (-59, [⟨1, 1, 15⟩, ⟨3, -1, 5⟩, ⟨3, 1, 5⟩]) = true := by decide +kernel
theorem oT31 : pTr (-59, [⟨1, 1, 15⟩, ⟨3, -1, 5⟩, ⟨3, 1, 5⟩]) = true := by decide +kernel
theorem oD32 : pDN (-56, [⟨1, 0, 14⟩, ⟨2, 0, 7⟩, ⟨3, -2, 5⟩, ⟨3, 2, 5⟩]) = true := by decide +kernel
theorem oT32 : pTr (-56, [⟨1, 0, 14⟩, ⟨2, 0, 7⟩, ⟨3, -2, 5⟩, ⟨3, 2, 5⟩]) = true := by decide +kernel
theorem oD33 : pDN (-55, [⟨1, 1, 14⟩, ⟨2, -1, 7⟩, ⟨2, 1, 7⟩, ⟨4, 3, 4⟩]) = true := by decide +kernel
theorem oT33 : pTr (-55, [⟨1, 1, 14⟩, ⟨2, -1, 7⟩, ⟨2, 1, 7⟩, ⟨4, 3, 4⟩]) = true := by decide +kernel
theorem oD34 : pDN (-52, [⟨1, 0, 13⟩, ⟨2, 2, 7⟩]) = true := by decide +kernel
theorem oT34 : pTr (-52, [⟨1, 0, 13⟩, ⟨2, 2, 7⟩]) = true := by decide +kernel
theorem oD35 : pDN (-51, [⟨1, 1, 13⟩, ⟨3, 3, 5⟩]) = true := by decide +kernel
theorem oT35 : pTr (-51, [⟨1, 1, 13⟩, ⟨3, 3, 5⟩]) = true := by decide +kernel
theorem oD36 : pDN (-48, [⟨1, 0, 12⟩, ⟨3, 0, 4⟩]) = true := by decide +kernel
theorem oT36 : pTr (-48, [⟨1, 0, 12⟩, ⟨3, 0, 4⟩]) = true := by decide +kernel
theorem oD37 : pDN (-47, [⟨1, 1, 12⟩, ⟨2, -1, 6⟩, ⟨2, 1, 6⟩, ⟨3, -1, 4⟩, ⟨3, 1, 4⟩]) = true := by decide +kernel
theorem oT37 : pTr (-47, [⟨1, 1, 12⟩, ⟨2, -1, 6⟩, ⟨2, 1, 6⟩, ⟨3, -1, 4⟩, ⟨3, 1, 4⟩]) = true := by decide +kernel
theorem oD38 : pDN (-44, [⟨1, 0, 11⟩, ⟨3, -2, 4⟩, ⟨3, 2, 4⟩]) = true := by decide +kernel
theorem oT38 : pTr (-44, [⟨1, 0, 11⟩, ⟨3, -2, 4⟩, ⟨3, 2, 4⟩]) = true := by decide +kernel
theorem oD39 : pDN (-43, [⟨1, 1, 11⟩]) = true := by decide +kernel
theorem oT39 : pTr (-43, [⟨1, 1, 11⟩]) = true := by decide +kernel
theorem okDN1 : cls1.all pDN = true := all_c oD20 <| all_c oD21 <| all_c oD22 <| all_c oD23 <| all_c oD24 <| all_c oD25 <| all_c oD26 <| all_c oD27 <| all_c oD28 <| all_c oD29 <| all_c oD30 <| all_c oD31 <| all_c oD32 <| all_c oD33 <| all_c oD34 <| all_c oD35 <| all_c oD36 <| all_c oD37 <| all_c oD38 <| all_c oD39 <| rfl
theorem okTr1 : cls1.all pTr = true := all_c oT20 <| all_c oT21 <| all_c oT22 <| all_c oT23 <| all_c oT24 <| all_c oT25 <| all_c oT26 <| all_c oT27 <| all_c oT28 <| all_c oT29 <| all_c oT30 <| all_c oT31 <| all_c oT32 <| all_c oT33 <| all_c oT34 <| all_c oT35 <| all_c oT36 <| all_c oT37 <| all_c oT38 <| all_c oT39 <| rfl
theorem oD40 : pDN (-40, [⟨1, 0, 10⟩, ⟨2, 0, 5⟩]) = true := by decide +kernel
theorem oT40 : pTr (-40, [⟨1, 0, 10⟩, ⟨2, 0, 5⟩]) = true := by decide +kernel
theorem oD41 : pDN (-39, [⟨1, 1, 10⟩, ⟨2, -1, 5⟩, ⟨2, 1, 5⟩, ⟨3, 3, 4⟩]) = true := by decide +kernel
theorem oT41 : pTr (-39, [⟨1, 1, 10⟩, ⟨2, -1, 5⟩, ⟨2, 1, 5⟩, ⟨3, 3, 4⟩]) = true := by decide +kernel
theorem oD42 : pDN (-36, [⟨1, 0, 9⟩, ⟨2, 2, 5⟩]) = true := by decide +kernel
theorem oT42 : pTr (-36, [⟨1, 0, 9⟩, ⟨2, 2, 5⟩]) = true := by decide +kernel
theorem oD43 : pDN (-35, [⟨1, 1, 9⟩, ⟨3, 1, 3⟩]) = true := by decide +kernel
theorem oT43 : pTr (-35, [⟨1, 1, 9⟩, ⟨3, 1, 3⟩]) = true := by decide +kernel
theorem oD44 : pDN (-32, [⟨1, 0, 8⟩, ⟨3, 2, 3⟩]) = true := by decide +kernel
theorem oT44 : pTr (-32, [⟨1, 0, 8⟩, ⟨3, 2, 3⟩]) = true := by decide +kernel
theorem oD45 : pDN (-31, [⟨1, 1, 8⟩, ⟨2, -1, 4⟩, ⟨2, 1, 4⟩]) = true := by decide +kernel
theorem oT45 : pTr (-31, [⟨1, 1, 8⟩, ⟨2, -1, 4⟩, ⟨2, 1, 4⟩]) = true := by decide +kernel
theorem oD46 : pDN (-28, [⟨1, 0, 7⟩]) = true := by decide +kernel
theorem oT46 : pTr (-28, [⟨1, 0, 7⟩]) = true := by decide +kernel
theorem oD47 : pDN (-27, [⟨1, 1, 7⟩]) = true := by decide +kernel
theorem oT47 : pTr (-27, [⟨1, 1, 7⟩]) = true := by decide +kernel
theorem oD48 : pDN (-24, [⟨1, 0, 6⟩, ⟨2, 0, 3⟩]) = true := by decide +kernel
theorem oT48 : pTr (-24, [⟨1, 0, 6⟩, ⟨2, 0, 3⟩]) = true := by decide +kernel
theorem oD49 : pDN (-23, [⟨1, 1, 6⟩, ⟨2, -1, 3⟩, ⟨2, 1, 3⟩]) = true := by decide +kernel
theorem oT49 : pTr (-23, [⟨1, 1, 6⟩, ⟨2, -1, 3⟩, ⟨2, 1, 3⟩]) = true := by decide +kernel
theorem oD50 : pDN (-20, [⟨1, 0, 5⟩, ⟨2, 2, 3⟩]) = true := by decide +kernel
theorem oT50 : pTr (-20, [⟨1, 0, 5⟩, ⟨2, 2, 3⟩]) = true := by decide +kernel
theorem oD51 : pDN (-19, [⟨1, 1, 5⟩]) = true := by decide +kernel
theorem oT51 : pTr (-19, [⟨1, 1, 5⟩]) = true := by decide +kernel
theorem oD52 : pDN (-16, [⟨1, 0, 4⟩]) = true := by decide +kernel
theorem oT52 : pTr (-16, [⟨1, 0, 4⟩]) = true := by decide +kernel
theorem oD53 : pDN (-15, [⟨1, 1, 4⟩, ⟨2, 1, 2⟩]) = true := by decide +kernel
theorem oT53 : pTr (-15, [⟨1, 1, 4⟩, ⟨2, 1, 2⟩]) = true := by decide +kernel
theorem oD54 : pDN (-12, [⟨1, 0, 3⟩]) = true := by decide +kernel
theorem oT54 : pTr (-12, [⟨1, 0, 3⟩]) = true := by decide +kernel
theorem oD55 : pDN (-11, [⟨1, 1, 3⟩]) = true := by decide +kernel
theorem oT55 : pTr (-11, [⟨1, 1, 3⟩]) = true := by decide +kernel
theorem oD56 : pDN (-8, [⟨1, 0, 2⟩]) = true := by decide +kernel
theorem oT56 : pTr (-8, [⟨1, 0, 2⟩]) = true := by decide +kernel
theorem oD57 : pDN (-7, [⟨1, 1, 2⟩]) = true := by decide +kernel
theorem oT57 : pTr (-7, [⟨1, 1, 2⟩]) = true := by decide +kernel
theorem oD58 : pDN (-4, [⟨1, 0, 1⟩]) = true := by decide +kernel
theorem oT58 : pTr (-4, [⟨1, 0, 1⟩]) = true := by decide +kernel
theorem oD59 : pDN (-3, [⟨1, 1, 1⟩]) = true := by decide +kernel
theorem oT59 : pTr (-3, [⟨1, 1, 1⟩]) = true := by decide +kernel
theorem okDN2 : cls2.all pDN = true := all_c oD40 <| all_c oD41 <| all_c oD42 <| all_c oD43 <| all_c oD44 <| all_c oD45 <| all_c oD46 <| all_c oD47 <| all_c oD48 <| all_c oD49 <| all_c oD50 <| all_c oD51 <| all_c oD52 <| all_c oD53 <| all_c oD54 <| all_c oD55 <| all_c oD56 <| all_c oD57 <| all_c oD58 <| all_c oD59 <| rfl
theorem okTr2 : cls2.all pTr = true := all_c oT40 <| all_c oT41 <| all_c oT42 <| all_c oT43 <| all_c oT44 <| all_c oT45 <| all_c oT46 <| all_c oT47 <| all_c oT48 <| all_c oT49 <| all_c oT50 <| all_c oT51 <| all_c oT52 <| all_c oT53 <| all_c oT54 <| all_c oT55 <| all_c oT56 <| all_c oT57 <| all_c oT58 <| all_c oT59 <| rfl
theorem oD60 : pDN (5, [⟨-1, 1, 1⟩]) = true := by decide +kernel
theorem oT60 : pTr (5, [⟨-1, 1, 1⟩]) = true := by decide +kernel
theorem oD61 : pDN (8, [⟨-1, 2, 1⟩]) = true := by decide +kernel
theorem oT61 : pTr (8, [⟨-1, 2, 1⟩]) = true := by decide +kernel
theorem oD62 : pDN (12, [⟨-2, 2, 1⟩, ⟨-1, 2, 2⟩]) = true := by decide +kernel
theorem oT62 : pTr (12, [⟨-2, 2, 1⟩, ⟨-1, 2, 2⟩]) = true := by decide +kernel
theorem oD63 : pDN (13, [⟨-1, 3, 1⟩]) = true := by decide +kernel
theorem oT63 : pTr (13, [⟨-1, 3, 1⟩]) = true := by decide +kernel
theorem oD64 : pDN (17, [⟨-2, 1, 2⟩]) = true := by decide +kernel
theorem oT64 : pTr (17, [⟨-2, 1, 2⟩]) = true := by decide +kernel
theorem oD65 : pDN (20, [⟨-1, 4, 1⟩]) = true := by decide +kernel
theorem oT65 : pTr (20, [⟨-1, 4, 1⟩]) = true := by decide +kernel
theorem oD66 : pDN (21, [⟨-3, 3, 1⟩, ⟨-1, 3, 3⟩]) = true := by decide +kernel
theorem oT66 : pTr (21, [⟨-3, 3, 1⟩, ⟨-1, 3, 3⟩]) = true := by decide +kernel
theorem oD67 : pDN (24, [⟨-2, 4, 1⟩, ⟨-1, 4, 2⟩]) = true := by decide +kernel
theorem oT67 : pTr (24, [⟨-2, 4, 1⟩, ⟨-1, 4, 2⟩]) = true := by decide +kernel
theorem oD68 : pDN (28, [⟨-3, 2, 2⟩, ⟨-2, 2, 3⟩]) = true := by decide +kernel
theorem oT68 : pTr (28, [⟨-3, 2, 2⟩, ⟨-2, 2, 3⟩]) = true := by decide +kernel
theorem oD69 : pDN (29, [⟨-1, 5, 1⟩]) = true := by decide +kernel
theorem oT69 : pTr (29, [⟨-1, 5, 1⟩]) = true := by decide +kernel
theorem oD70 : pDN (32, [⟨-4, 4, 1⟩, ⟨-1, 4, 4⟩]) = true := by decide +kernel
theorem oT70 : pTr (32, [⟨-4, 4, 1⟩, ⟨-1, 4, 4⟩]) = true := by decide +kernel
theorem oD71 : pDN (33, [⟨-3, 3, 2⟩, ⟨-2, 3, 3⟩]) = true := by decide +kernel
theorem oT71 : pTr (33, [⟨-3, 3, 2⟩, ⟨-2, 3, 3⟩]) = true := by decide +kernel
theorem oD72 : pDN (37, [⟨-3, 1, 3⟩]) = true := by decide +kernel
theorem oT72 : pTr (37, [⟨-3, 1, 3⟩]) = true := by decide +kernel
theorem oD73 : pDN (40, [⟨-3, 2, 3⟩, ⟨-1, 6, 1⟩]) = true := by decide +kernel
theorem oT73 : pTr (40, [⟨-3, 2, 3⟩, ⟨-1, 6, 1⟩]) = true := by decide +kernel
theorem oD74 : pDN (41, [⟨-4, 3, 2⟩]) = true := by decide +kernel
theorem oT74 : pTr (41, [⟨-4, 3, 2⟩]) = true := by decide +kernel
theorem oD75 : pDN (44, [⟨-2, 6, 1⟩, ⟨-1, 6, 2⟩]) = true := by decide +kernel
theorem oT75 : pTr (44, [⟨-2, 6, 1⟩, ⟨-1, 6, 2⟩]) = true := by decide +kernel
theorem oD76 : pDN (45, [⟨-5, 5, 1⟩, ⟨-1, 5, 5⟩]) = true := by decide +kernel
theorem oT76 : pTr (45, [⟨-5, 5, 1⟩, ⟨-1, 5, 5⟩]) = true := by decide +kernel
theorem oD77 : pDN (48, [⟨-3, 6, 1⟩, ⟨-1, 6, 3⟩]) = true := by decide +kernel
theorem oT77 : pTr (48, [⟨-3, 6, 1⟩, ⟨-1, 6, 3⟩]) = true := by decide +kernel
theorem oD78 : pDN (52, [⟨-4, 2, 3⟩]) = true := by decide +kernel
theorem oT78 : pTr (52, [⟨-4, 2, 3⟩]) = true := by decide +kernel
theorem oD79 : pDN (53, [⟨-1, 7, 1⟩]) = true := by decide +kernel
theorem oT79 : pTr (53, [⟨-1, 7, 1⟩]) = true := by decide +kernel
theorem okDN3 : cls3.all pDN = true := all_c oD60 <| all_c oD61 <| all_c oD62 <| all_c oD63 <| all_c oD64 <| all_c oD65 <| all_c oD66 <| all_c oD67 <| all_c oD68 <| all_c oD69 <| all_c oD70 <| all_c oD71 <| all_c oD72 <| all_c oD73 <| all_c oD74 <| all_c oD75 <| all_c oD76 <| all_c oD77 <| all_c oD78 <| all_c oD79 <| rfl
theorem okTr3 : cls3.all pTr = true := all_c oT60 <| all_c oT61 <| all_c oT62 <| all_c oT63 <| all_c oT64 <| all_c oT65 <| all_c oT66 <| all_c oT67 <| all_c oT68 <| all_c oT69 <| all_c oT70 <| all_c oT71 <| all_c oT72 <| all_c oT73 <| all_c oT74 <| all_c oT75 <| all_c oT76 <| all_c oT77 <| all_c oT78 <| all_c oT79 <| rfl
theorem oD80 : pDN (56, [⟨-5, 4, 2⟩, ⟨-2, 4, 5⟩]) = true := by decide +kernel
theorem oT80 : pTr (56, [⟨-5, 4, 2⟩, ⟨-2, 4, 5⟩]) = true := by decide +kernel
theorem oD81 : pDN (57, [⟨-4, 3, 3⟩, ⟨-3, 3, 4⟩]) = true := by decide +kernel
theorem oT81 : pTr (57, [⟨-4, 3, 3⟩, ⟨-3, 3, 4⟩]) = true := by decide +kernel
theorem oD82 : pDN (60, [⟨-6, 6, 1⟩, ⟨-3, 6, 2⟩, ⟨-2, 6, 3⟩, ⟨-1, 6, 6⟩]) = true := by decide +kernel
theorem oT82 : pTr (60, [⟨-6, 6, 1⟩, ⟨-3, 6, 2⟩, ⟨-2, 6, 3⟩, ⟨-1, 6, 6⟩]) = true := by decide +kernel
theorem oD83 : pDN (61, [⟨-3, 5, 3⟩]) = true := by decide +kernel
theorem oT83 : pTr (61, [⟨-3, 5, 3⟩]) = true := by decide +kernel
theorem oD84 : pDN (65, [⟨-5, 5, 2⟩, ⟨-4, 1, 4⟩]) = true := by decide +kernel
theorem oT84 : pTr (65, [⟨-5, 5, 2⟩, ⟨-4, 1, 4⟩]) = true := by decide +kernel
theorem oD85 : pDN (68, [⟨-1, 8, 1⟩]) = true := by decide +kernel
theorem oT85 : pTr (68, [⟨-1, 8, 1⟩]) = true := by decide +kernel
theorem oD86 : pDN (69, [⟨-5, 3, 3⟩, ⟨-3, 3, 5⟩]) = true := by decide +kernel
theorem oT86 : pTr (69, [⟨-5, 3, 3⟩, ⟨-3, 3, 5⟩]) = true := by decide +kernel
theorem oD87 : pDN (72, [⟨-2, 8, 1⟩, ⟨-1, 8, 2⟩]) = true := by decide +kernel
theorem oT87 : pTr (72, [⟨-2, 8, 1⟩, ⟨-1, 8, 2⟩]) = true := by decide +kernel
theorem oD88 : pDN (73, [⟨-6, 5, 2⟩]) = true := by decide +kernel
theorem oT88 : pTr (73, [⟨-6, 5, 2⟩]) = true := by decide +kernel
theorem oD89 : pDN (76, [⟨-5, 4, 3⟩, ⟨-3, 4, 5⟩]) = true := by decide +kernel
theorem oT89 : pTr (76, [⟨-5, 4, 3⟩, ⟨-3, 4, 5⟩]) = true := by decide +kernel
theorem oD90 : pDN (77, [⟨-7, 7, 1⟩, ⟨-1, 7, 7⟩]) = true := by decide +kernel
theorem oT90 : pTr (77, [⟨-7, 7, 1⟩, ⟨-1, 7, 7⟩]) = true := by decide +kernel
theorem oD91 : pDN (80, [⟨-4, 8, 1⟩, ⟨-1, 8, 4⟩]) = true := by decide +kernel
theorem oT91 : pTr (80, [⟨-4, 8, 1⟩, ⟨-1, 8, 4⟩]) = true := by decide +kernel
theorem oD92 : pDN (84, [⟨-5, 2, 4⟩, ⟨-4, 2, 5⟩]) = true := by decide +kernel
theorem oT92 : pTr (84, [⟨-5, 2, 4⟩, ⟨-4, 2, 5⟩]) = true := by decide +kernel
theorem oD93 : pDN (85, [⟨-5, 5, 3⟩, ⟨-1, 9, 1⟩]) = true := by decide +kernel
theorem oT93 : pTr (85, [⟨-5, 5, 3⟩, ⟨-1, 9, 1⟩]) = true := by decide +kernel
theorem oD94 : pDN (88, [⟨-6, 4, 3⟩, ⟨-3, 4, 6⟩]) = true := by decide +kernel
theorem oT94 : pTr (88, [⟨-6, 4, 3⟩, ⟨-3, 4, 6⟩]) = true := by decide +kernel
theorem oD95 : pDN (89, [⟨-5, 3, 4⟩]) = true := by decide +kernel
theorem oT95 : pTr (89, [⟨-5, 3, 4⟩]) = true := by decide +kernel
theorem oD96 : pDN (92, [⟨-7, 6, 2⟩, ⟨-2, 6, 7⟩]) = true := by decide +kernel
theorem oT96 : pTr (92, [⟨-7, 6, 2⟩, ⟨-2, 6, 7⟩]) = true := by decide +kernel
theorem oD97 : pDN (93, [⟨-3, 9, 1⟩, ⟨-1, 9, 3⟩]) = true := by decide +kernel
theorem oT97 : pTr (93, [⟨-3, 9, 1⟩, ⟨-1, 9, 3⟩]) = true := by decide +kernel
theorem oD98 : pDN (96, [⟨-8, 8, 1⟩, ⟨-5, 4, 4⟩, ⟨-4, 4, 5⟩, ⟨-1, 8, 8⟩]) = true := by decide +kernel
theorem oT98 : pTr (96, [⟨-8, 8, 1⟩, ⟨-5, 4, 4⟩, ⟨-4, 4, 5⟩, ⟨-1, 8, 8⟩]) = true := by decide +kernel
theorem oD99 : pDN (97, [⟨-6, 5, 3⟩]) = true := by decide +kernel
theorem oT99 : pTr (97, [⟨-6, 5, 3⟩]) = true := by decide +kernel
theorem okDN4 : cls4.all pDN = true := all_c oD80 <| all_c oD81 <| all_c oD82 <| all_c oD83 <| all_c oD84 <| all_c oD85 <| all_c oD86 <| all_c oD87 <| all_c oD88 <| all_c oD89 <| all_c oD90 <| all_c oD91 <| all_c oD92 <| all_c oD93 <| all_c oD94 <| all_c oD95 <| all_c oD96 <| all_c oD97 <| all_c oD98 <| all_c oD99 <| rfl
theorem okTr4 : cls4.all pTr = true := all_c oT80 <| all_c oT81 <| all_c oT82 <| all_c oT83 <| all_c oT84 <| all_c oT85 <| all_c oT86 <| all_c oT87 <| all_c oT88 <| all_c oT89 <| all_c oT90 <| all_c oT91 <| all_c oT92 <| all_c oT93 <| all_c oT94 <| all_c oT95 <| all_c oT96 <| all_c oT97 <| all_c oT98 <| all_c oT99 <| rfl
theorem oD100 : pDN (101, [⟨-5, 1, 5⟩]) = true := by decide +kernel
theorem oT100 : pTr (101, [⟨-5, 1, 5⟩]) = true := by decide +kernel
theorem oD101 : pDN (104, [⟨-5, 2, 5⟩, ⟨-1, 10, 1⟩]) = true := by decide +kernel
theorem oT101 : pTr (104, [⟨-5, 2, 5⟩, ⟨-1, 10, 1⟩]) = true := by decide +kernel
theorem oD102 : pDN (105, [⟨-7, 7, 2⟩, ⟨-6, 3, 4⟩, ⟨-4, 3, 6⟩, ⟨-2, 7, 7⟩]) = true := by decide +kernel
theorem oT102 : pTr (105, [⟨-7, 7, 2⟩, ⟨-6, 3, 4⟩, ⟨-4, 3, 6⟩, ⟨-2, 7, 7⟩]) = true := by decide +kernel
theorem oD103 : pDN (108, [⟨-2, 10, 1⟩, ⟨-1, 10, 2⟩]) = true := by decide +kernel
theorem oT103 : pTr (108, [⟨-2, 10, 1⟩, ⟨-1, 10, 2⟩]) = true := by decide +kernel
theorem oD104 : pDN (109, [⟨-7, 5, 3⟩]) = true := by decide +kernel
theorem oT104 : pTr (109, [⟨-7, 5, 3⟩]) = true := by decide +kernel
theorem oD105 : pDN (112, [⟨-4, 8, 3⟩, ⟨-3, 8, 4⟩]) = true := by decide +kernel
theorem oT105 : pTr (112, [⟨-4, 8, 3⟩, ⟨-3, 8, 4⟩]) = true := by decide +kernel
theorem oD106 : pDN (113, [⟨-8, 7, 2⟩]) = true := by decide +kernel
theorem oT106 : pTr (113, [⟨-8, 7, 2⟩]) = true := by decide +kernel
theorem oD107 : pDN (116, [⟨-5, 4, 5⟩]) = true := by decide +kernel
theorem oT107 : pTr (116, [⟨-5, 4, 5⟩]) = true := by decide +kernel
theorem oD108 : pDN (117, [⟨-9, 9, 1⟩, ⟨-1, 9, 9⟩]) = true := by decide +kernel
theorem oT108 : pTr (117, [⟨-9, 9, 1⟩, ⟨-1, 9, 9⟩]) = true := by decide +kernel
theorem oD109 : pDN (120, [⟨-7, 6, 3⟩, ⟨-5, 10, 1⟩, ⟨-3, 6, 7⟩, ⟨-1, 10, 5⟩]) = true := by decide +kernel
theorem oT109 : pTr (120, [⟨-7, 6, 3⟩, ⟨-5, 10, 1⟩, ⟨-3, 6, 7⟩, ⟨-1, 10, 5⟩]) = true := by decide +kernel
theorem okDN5 : cls5.all pDN = true := all_c oD100 <| all_c oD101 <| all_c oD102 <| all_c oD103 <| all_c oD104 <| all_c oD105 <| all_c oD106 <| all_c oD107 <| all_c oD108 <| all_c oD109 <| rfl
theorem okTr5 : cls5.all pTr = true := all_c oT100 <| all_c oT101 <| all_c oT102 <| all_c oT103 <| all_c oT104 <| all_c oT105 <| all_c oT106 <| all_c oT107 <| all_c oT108 <| all_c oT109 <| rfl
theorem cls_cases {p : Int × List Fm → Bool} (h0 : cls0.all p = true) (h1 : cls1.all p = true) (h2 : cls2.all p = true) (h3 : cls3.all p = true) (h4 : cls4.all p = true) (h5 : cls5.all p = true) : clsT.all p = true := by
  unfold clsT
  simp only [List.all_append, h0, h1, h2, h3, h4, h5, Bool.and_self]
theorem okDN_all : (clsT.all fun x => Nums.all fun N => okDN x.1 N x.2) = true := cls_cases okDN0 okDN1 okDN2 okDN3 okDN4 okDN5
theorem okTr_all : (clsT.all fun x => x.2.all (okTree x.1)) = true := cls_cases okTr0 okTr1 okTr2 okTr3 okTr4 okTr5
end L3
set_option maxHeartbeats 4000000
namespace L3
open PySem L2 RZ
/-! ### draws -/
@[simp] theorem ev_forV0 {h : Dat → En → Option En} {b : En → Option Fw} {ρ : En} : forGoV h b [] ρ = some (.nx ρ) := rfl
@[simp] theorem ev_forVc {h : Dat → En → Option En} {b : En → Option Fw} {d : Dat} {ds : List Dat} {s0 : Sl} {ρ0 : En} : forGoV h b (d :: ds) (s0 :: ρ0) = (h d (s0 :: ρ0)).bind fun ρ1 => (b ρ1).bind fun r => match r with
    | .nx ρ2 => forGoV h b ds ρ2
    | .rt v ρ2 => some (.rt v ρ2) := rfl
@[simp] theorem ev_ixN30 : ixN 3 0 = some 0 := rfl
@[simp] theorem ev_ixN32 : ixN 3 2 = some 2 := rfl
def good (n : Nat) (ws : List Dat) : Prop := ∃ m c k : Int, ws = [.int m, .int c, .int k] ∧ 0 ≤ k ∧ k ≤ n
theorem good.mono {n m : Nat} {ws : List Dat} (h : good n ws) (l : n ≤ m) : good m ws := by
  obtain ⟨a, b, c, rfl, h1, h2⟩ := h
  exact ⟨a, b, c, rfl, h1, by omega⟩
theorem dip_ok {n : Nat} {ws : List Dat} {many : Int} (g : good n ws) (h : 0 < many) (h' : many < 1073741824) (hn : n < 1000000) : ∃ (d : Int) (ws' : List Dat), F_law_dip ws [.int many] = some (.int d, ws') ∧ 0 ≤ d ∧ d < many ∧ good (n + 1) ws' := by
  obtain ⟨m, c, k, rfl, k0, k1⟩ := g
  by_cases z : 0 < c
  · refine ⟨c % many, [.int m, .int (c / many), .int k], ?_, Int.emod_nonneg _ (by omega), Int.emod_lt_of_pos _ h, m, _, k, rfl, k0, by omega⟩
    simp [F_law_dip, runW, s_law_dip, z, h, h']
  · have m1 := dMul_r (i := m) (j := 39373) (by decide)
    have m2 := dMul_l (i := 7) (j := k + 1) (by decide)
    have m3 := dMul_r (i := 7 * (k + 1)) (j := k + 1) (by omega)
    have d1 := fun x : Int => dMod_ok (i := x) (j := 2147483629) (by decide)
    have d2 := fun x : Int => dDiv_ok (i := x) (j := 64) (by decide) (by decide)
    have d3 := fun x : Int => dMod_ok (i := x) (j := many) (by omega)
    refine ⟨_, [.int ((m * 39373 + 7 * (k + 1) * (k + 1) + 101).fmod 2147483629), .int c, .int (k + 1)], ?_, Int.fmod_nonneg_of_pos (((m * 39373 + 7 * (k + 1) * (k + 1) + 101).fmod 2147483629).fdiv 64) h, Int.fmod_lt_of_pos _ h, _, _, _, rfl, by omega, by omega⟩
    simp [F_law_dip, runW, s_law_dip, z, m1, m2, m3, d1, d2, d3]
theorem whole_all : ((List.range 241).all fun (i : Nat) => isBl (F_law_is_whole [.int ((i : Int) - 120)]) (isD ((i : Int) - 120))) = true := by decide +kernel
theorem whole_ok {D : Int} (h : -120 ≤ D) (h' : D ≤ 120) : F_law_is_whole [.int D] = some (.bl (isD D)) := by
  have := isBl_ok (List.all_eq_true.mp whole_all (D + 120).toNat (List.mem_range.mpr (by omega)))
  have e : (((D + 120).toNat : Nat) : Int) - 120 = D := by omega
  rwa [e] at this
theorem dd20 : DD (-20) := ⟨by decide, by decide, by decide +kernel⟩
abbrev dwb : En → Option Fw := vSeq (vSet 2 (xOp dSub (xCall1 0 F_law_dip (xPure (fK (.int 241)))) (xPure (fK (.int 120)))))
  (vIf (fB (fC F_law_is_whole (fCons (fV 2) (fNil)))) (vRet (xPure (fV 2))) (vNext))
theorem dw_go : ∀ (ds : List Dat) (n : Nat) (ws : List Dat) (s1 s2 : Sl), good n ws → n + ds.length < 1000000 → ∃ (ws' : List Dat) (s1' s2' : Sl), good (n + ds.length) ws' ∧
    (forGoV (gN 1) dwb ds [.ow ws, s1, s2] = some (.nx [.ow ws', s1', s2']) ∨ ∃ D, DD D ∧ forGoV (gN 1) dwb ds [.ow ws, s1, s2] = some (.rt (.int D) [.ow ws', s1', s2']))
  | [], n, ws, s1, s2, g, _ => ⟨ws, s1, s2, g, .inl rfl⟩
  | d :: ds, n, ws, s1, s2, g, hn => by
    simp at hn
    obtain ⟨x, ws1, e1, x0, x1, g1⟩ := dip_ok g (many := 241) (by decide) (by decide) (by omega)
    have e2 := whole_ok (D := x - 120) (by omega) (by omega)
    cases z : isD (x - 120) with
    | true =>
      rw [z] at e2
      refine ⟨ws1, .fz d, .fz (.int (x - 120)), g1.mono (by simp), .inr ⟨x - 120, ⟨by omega, by omega, z⟩, ?_⟩⟩
      simp [dwb, e1, e2]
    | false =>
      rw [z] at e2
      obtain ⟨ws', s1', s2', g', e⟩ := dw_go ds (n + 1) ws1 (.fz d) (.fz (.int (x - 120))) g1 (by omega)
      refine ⟨ws', s1', s2', g'.mono (by simp; omega), ?_⟩
      rcases e with e | ⟨D, hD, e⟩
      · exact .inl (by simp [dwb, e1, e2, e])
      · exact .inr ⟨D, hD, by simp [dwb, e1, e2, e]⟩
theorem irng_len (m n : Int) : (irng m n).length = (n - m).toNat := by
  unfold irng
  simp
theorem dw_ok {n : Nat} {ws : List Dat} (g : good n ws) (hn : n < 900000) : ∃ (D : Int) (ws' : List Dat), F_law_drawn_whole ws [] = some (.int D, ws') ∧ DD D ∧ good (n + 40) ws' := by
  obtain ⟨ws', s1, s2, g', e⟩ := dw_go (irng 0 40) n ws .no .no g (by rw [irng_len]; simp; omega)
  rw [irng_len] at g'
  have g' : good (n + 40) ws' := g'
  rcases e with e | ⟨D, hD, e⟩
  · refine ⟨-20, ws', ?_, dd20, g'⟩
    simp [F_law_drawn_whole, runW, s_law_drawn_whole, e]
  · refine ⟨D, ws', ?_, hD, g'⟩
    simp [F_law_drawn_whole, runW, s_law_drawn_whole, e]
/-! ### the drawn change -/
def Mt.nxt (M : Mt) (k : Int) : Mt := ⟨-M.r, -M.s, M.p + k * M.r, M.q + k * M.s⟩
abbrev cgb : En → Option Fw := vSeq (vSet 4 (xOp dSub (xCall1 0 F_law_dip (xPure (fK (.int 5)))) (xPure (fK (.int 2)))))
  (vSeq (vSet 2 (xPure (fTup (fCons (fTup (fCons (f2 dAdd (fIxL (fSq (fIxL (fSq (fV 2)) (fK (.int 0)))) (fK (.int 0))) (f2 dMul (fV 4) (fIxL (fSq (fIxL (fSq (fV 2)) (fK (.int 1)))) (fK (.int 0))))) (fCons (f2 dAdd (fIxL (fSq (fIxL (fSq (fV 2)) (fK (.int 0)))) (fK (.int 1))) (f2 dMul (fV 4) (fIxL (fSq (fIxL (fSq (fV 2)) (fK (.int 1)))) (fK (.int 1))))) (fNil)))) (fCons (fIxL (fSq (fV 2)) (fK (.int 1))) (fNil))))))
  (vSet 2 (xPure (fTup (fCons (fTup (fCons (f1 dNeg (fIxL (fSq (fIxL (fSq (fV 2)) (fK (.int 1)))) (fK (.int 0)))) (fCons (f1 dNeg (fIxL (fSq (fIxL (fSq (fV 2)) (fK (.int 1)))) (fK (.int 1)))) (fNil)))) (fCons (fIxL (fSq (fV 2)) (fK (.int 0))) (fNil)))))))
theorem cg_goV : ∀ (ds : List Dat) (n : Nat) (ws : List Dat) (M : Mt) (s1 s3 s4 : Sl), good n ws → n + ds.length < 1000000 → ∃ (js : List Int) (ws' : List Dat) (s3' s4' : Sl), js.length = ds.length ∧ (∀ j ∈ js, -2 ≤ j ∧ j ≤ 2) ∧ good (n + ds.length) ws' ∧
    forGoV (gN 3) cgb ds [.ow ws, s1, .fz M.d, s3, s4] = some (.nx [.ow ws', s1, .fz (js.foldl Mt.nxt M).d, s3', s4'])
  | [], n, ws, M, s1, s3, s4, g, _ => ⟨[], ws, s3, s4, rfl, by simp, g, rfl⟩
  | d :: ds, n, ws, M, s1, s3, s4, g, hn => by
    simp at hn
    obtain ⟨x, ws1, e1, x0, x1, g1⟩ := dip_ok g (many := 5) (by decide) (by decide) (by omega)
    obtain ⟨js, ws', s3', s4', l, b, g', e⟩ := cg_goV ds (n + 1) ws1 (M.nxt (x - 2)) s1 (.fz d) (.fz (.int (x - 2))) g1 (by omega)
    refine ⟨(x - 2) :: js, ws', s3', s4', by simp [l], ?_, g'.mono (by simp; omega), ?_⟩
    · intro j hj
      rcases List.mem_cons.mp hj with q | q
      · subst q; omega
      · exact b j q
    · have m1 := dMul_l (i := x - 2) (j := M.r) (by omega)
      have m2 := dMul_l (i := x - 2) (j := M.s) (by omega)
      have e : forGoV (gN 3) cgb ds [.ow ws1, s1, .fz (tb2 (-M.r) (-M.s) (M.p + (x - 2) * M.r) (M.q + (x - 2) * M.s)), .fz d, .fz (.int (x - 2))] = _ := e
      simp [cgb, e1, m1, m2, e]
theorem cg_okV {n : Nat} {ws : List Dat} {m : Int} (g : good n ws) (hn : n < 900000) (hm : 0 ≤ m) (hm' : m ≤ 3) : ∃ (js : List Int) (ws' : List Dat), F_law_change ws [.int m] = some ((js.foldl Mt.nxt Mt.one).d, ws') ∧ js.length = m.toNat ∧ (∀ j ∈ js, -2 ≤ j ∧ j ≤ 2) ∧ good (n + 3) ws' := by
  have l : (irng 0 m).length = m.toNat := by rw [irng_len]; congr 1; omega
  obtain ⟨js, ws', s3, s4, l1, b, g', e⟩ := cg_goV (irng 0 m) n ws .one (.fz (.int m)) .no .no g (by rw [l]; omega)
  refine ⟨js, ws', ?_, by rw [l1, l], b, g'.mono (by rw [l]; omega)⟩
  have e : forGoV (gN 3) cgb (irng 0 m) [.ow ws, .fz (.int m), .fz (tb2 1 0 0 1), .no, .no] = _ := e
  have r : -1000000 ≤ m ∧ m ≤ 1000000 := by omega
  simp [F_law_change, runW, s_law_change, r, e]
end L3
set_option maxHeartbeats 4000000
namespace L3
open PySem L2 RZ
/-! ### the tree of drawn changes -/
def Fm.comp (f : Fm) (M : Mt) : Fm := ⟨f.a * M.p * M.p + f.b * M.p * M.r + f.c * M.r * M.r, 2 * f.a * M.p * M.q + f.b * (M.p * M.s + M.q * M.r) + 2 * f.c * M.r * M.s, f.a * M.q * M.q + f.b * M.q * M.s + f.c * M.s * M.s⟩
theorem comp_one (f : Fm) : f.comp .one = f := by
  cases f
  simp [Fm.comp, Mt.one]
theorem comp_nxt (f : Fm) (M : Mt) (k : Int) : f.comp (M.nxt k) = (f.ap k).comp M := by
  simp only [Fm.comp, Mt.nxt, Fm.ap, Fm.mk.injEq]
  refine ⟨by grind, by grind, by grind⟩
theorem comp_D (f : Fm) {M : Mt} (h : M.det = 1) : (f.comp M).D = f.D := by
  have e : (f.comp M).D = f.D * (M.det * M.det) := by
    simp only [Fm.D, Fm.comp, Mt.det]
    grind
  rw [e, h]
  simp
theorem nxt_det (M : Mt) (k : Int) : (M.nxt k).det = M.det := by
  simp only [Mt.nxt, Mt.det]
  grind
def bndM (B : Nat) (M : Mt) : Prop := M.p.natAbs ≤ B ∧ M.q.natAbs ≤ B ∧ M.r.natAbs ≤ B ∧ M.s.natAbs ≤ B
theorem nxt_bnd {B : Nat} {M : Mt} {k : Int} (h : bndM B M) (h1 : -2 ≤ k) (h2 : k ≤ 2) : bndM (3 * B) (M.nxt k) := by
  obtain ⟨a1, a2, a3, a4⟩ := h
  have c : k = -2 ∨ k = -1 ∨ k = 0 ∨ k = 1 ∨ k = 2 := by omega
  unfold bndM Mt.nxt
  rcases c with rfl | rfl | rfl | rfl | rfl <;> refine ⟨?_, ?_, ?_, ?_⟩ <;> dsimp only <;> omega
theorem fold_ok : ∀ (js : List Int) (B : Nat) (M : Mt), bndM B M → (∀ j ∈ js, -2 ≤ j ∧ j ≤ 2) → bndM (3 ^ js.length * B) (js.foldl Mt.nxt M) ∧ (js.foldl Mt.nxt M).det = M.det
  | [], B, M, h, _ => ⟨by simpa using h, rfl⟩
  | j :: js, B, M, h, hj => by
    obtain ⟨j1, j2⟩ := hj j (List.mem_cons_self ..)
    obtain ⟨c1, c2⟩ := fold_ok js (3 * B) (M.nxt j) (nxt_bnd h j1 j2) fun x hx => hj x (List.mem_cons_of_mem _ hx)
    refine ⟨?_, c2.trans (nxt_det M j)⟩
    have e : 3 ^ (j :: js).length * B = 3 ^ js.length * (3 * B) := by
      rw [List.length_cons, Nat.pow_succ, Nat.mul_assoc]
    rw [e]
    exact c1
theorem nb {x y : Int} {A B : Nat} (hx : x.natAbs ≤ A) (hy : y.natAbs ≤ B) : (x * y).natAbs ≤ A * B := by
  rw [Int.natAbs_mul]
  exact Nat.mul_le_mul hx hy
theorem chg_comp {f : Fm} {M : Mt} (hf : f.ok) (hM : bndM 1000 M) (hd : M.det = 1) (ho : okF (f.comp M).a (f.comp M).b (f.comp M).c = true) : chgN f M = some (f.comp M) := by
  obtain ⟨a1, a2, a3, a4⟩ := hM
  have f1 : (2 * f.a).natAbs ≤ 1000000 := by have := hf.ha; omega
  have f2 : f.b.natAbs ≤ 1000000 := by have := hf.hb; omega
  have f3 : (2 * f.c).natAbs ≤ 1000000 := by have := hf.hc; omega
  have s1 : smM M = true := by
    unfold smM
    simp only [Bool.and_eq_true]
    exact ⟨Nat.ble_eq_true_of_le (by omega), Nat.ble_eq_true_of_le (by omega), Nat.ble_eq_true_of_le (by omega), Nat.ble_eq_true_of_le (by omega)⟩
  have s2 : smM (M.tr.mul f.tb) = true := by
    unfold smM
    simp only [Bool.and_eq_true, Mt.tr, Mt.mul, Fm.tb]
    have b1 := nb a1 f1
    have b2 := nb a3 f2
    have b3 := nb a1 f2
    have b4 := nb a3 f3
    have b5 := nb a2 f1
    have b6 := nb a4 f2
    have b7 := nb a2 f2
    have b8 := nb a4 f3
    exact ⟨Nat.ble_eq_true_of_le (by omega), Nat.ble_eq_true_of_le (by omega), Nat.ble_eq_true_of_le (by omega), Nat.ble_eq_true_of_le (by omega)⟩
  have e1 : ((M.tr.mul f.tb).mul M).p = 2 * (f.comp M).a := by
    simp only [Mt.tr, Mt.mul, Fm.tb, Fm.comp]
    grind
  have e2 : ((M.tr.mul f.tb).mul M).s = 2 * (f.comp M).c := by
    simp only [Mt.tr, Mt.mul, Fm.tb, Fm.comp]
    grind
  have e3 : ((M.tr.mul f.tb).mul M).q = (f.comp M).b := by
    simp only [Mt.tr, Mt.mul, Fm.tb, Fm.comp]
    grind
  unfold chgN
  simp only [mnz_eq, nz_eq]
  rw [e1, e2, e3, Int.mul_fdiv_cancel_left _ (by decide), Int.mul_fdiv_cancel_left _ (by decide), s1, s2, hd, ho]
  rfl
theorem redN_red {D : Int} : ∀ (n : Nat) (f r : Fm) (M M' : Mt), redN D n f M = some (r, M') → isRed D r.a r.b r.c = true
  | 0, _, _, _, _, h => by cases h
  | n + 1, f, r, M, M', h => by
    unfold redN at h
    split at h
    · rename_i z
      cases h
      exact z
    · split at h
      · rw [mnz_eq] at h
        split at h
        · exact redN_red n _ r _ M' h
        · cases h
      · cases h
theorem lead_red {D : Int} {g r : Fm} {M : Mt} (h : redN D 60 g .one = some (r, M)) : leadN D g = leadN D r := by
  have z := redN_red 60 g r .one M h
  have e : redN D 60 r .one = some (r, .one) := by
    show (match isRed D r.a r.b r.c with | true => _ | false => _) = _
    rw [z]
  unfold leadN ringOfN
  rw [h, e]
structure Node (D : Int) (f g : Fm) : Prop where
  o : okF g.a g.b g.c = true
  p : 0 < D ∨ 0 < g.a
  c : gcd3 g.a g.b g.c = 1
  l : leadN D g = some f
theorem isLead_ok {D : Int} {f r : Fm} (h : isLead D f r = true) : leadN D r = some f := by
  unfold isLead at h
  split at h
  · rename_i g e
    rw [e, Fm.eq_ok h]
  · cases h
theorem node_ok {D : Int} {f g : Fm} {R : List Fm} (hR : R.all (isLead D f) = true) (h : nodeOk D R g = true) : Node D f g := by
  unfold nodeOk at h
  simp only [Bool.and_eq_true, Bool.or_eq_true, decide_eq_true_eq] at h
  obtain ⟨h1, h2, h3, h4⟩ := h
  refine ⟨h1, h2, Nat.eq_of_beq_eq_true h3, ?_⟩
  split at h4
  · rename_i r M e
    obtain ⟨x, hx, ex⟩ := List.any_eq_true.mp h4
    rw [lead_red e, Fm.eq_ok ex]
    exact isLead_ok (List.all_eq_true.mp hR x hx)
  · cases h4
theorem five_mem {j : Int} (h : -2 ≤ j) (h' : j ≤ 2) : j ∈ five := by
  have c : j = -2 ∨ j = -1 ∨ j = 0 ∨ j = 1 ∨ j = 2 := by omega
  rcases c with rfl | rfl | rfl | rfl | rfl <;> decide
theorem tree_ok {D : Int} {R : List Fm} : ∀ (n : Nat) (f : Fm) (js : List Int), treeOk D R n f = true → js ≠ [] → js.length ≤ n → (∀ j ∈ js, -2 ≤ j ∧ j ≤ 2) → nodeOk D R (f.comp (js.foldl Mt.nxt .one)) = true
  | 0, f, js, _, h, hl, _ => absurd (List.length_eq_zero_iff.mp (by omega)) h
  | n + 1, f, js, ht, h, hl, hj => by
    rcases List.eq_nil_or_concat js with q | ⟨ks, j, q⟩
    · exact absurd q h
    rw [List.concat_eq_append] at q
    subst q
    obtain ⟨j1, j2⟩ := hj j (by simp)
    have ht : (five.all fun k => fnz (f.ap k) fun g => nodeOk D R g && treeOk D R n g) = true := ht
    have t := List.all_eq_true.mp ht j (five_mem j1 j2)
    rw [fnz_eq, Bool.and_eq_true] at t
    rw [List.foldl_append, List.foldl_cons, List.foldl_nil, comp_nxt]
    by_cases z : ks = []
    · subst z
      rw [List.foldl_nil, comp_one]
      exact t.1
    · exact tree_ok n (f.ap j) ks t.2 z (by simp at hl; omega) fun x hx => hj x (by simp [hx])
theorem changed_ok {D : Int} {f : Fm} (hf : f.ok) (hD : D = f.D) (ht : okTree D f = true) {js : List Int} (h1 : 1 ≤ js.length) (h2 : js.length ≤ 3) (hj : ∀ j ∈ js, -2 ≤ j ∧ j ≤ 2) :
    ∃ g : Fm, M_changed [f.d, (js.foldl Mt.nxt Mt.one).d] = some g.d ∧ g.ok ∧ D = g.D ∧ (0 < D ∨ 0 < g.a) ∧ leadN D g = some f ∧ gcd3 g.a g.b g.c = 1 := by
  unfold okTree at ht
  split at ht
  · rename_i R e
    rw [Bool.and_eq_true] at ht
    have N := node_ok ht.1 (tree_ok 3 f js ht.2 (fun z => by subst z; simp at h1) h2 hj)
    obtain ⟨b, d⟩ := fold_ok js 1 .one ⟨by decide, by decide, by decide, by decide⟩ hj
    have d1 : (js.foldl Mt.nxt Mt.one).det = 1 := d
    have p3 : 3 ^ js.length ≤ 3 ^ 3 := Nat.pow_le_pow_right (by decide) h2
    have b1 : bndM 1000 (js.foldl Mt.nxt Mt.one) := ⟨by have := b.1; omega, by have := b.2.1; omega, by have := b.2.2.1; omega, by have := b.2.2.2; omega⟩
    generalize js.foldl Mt.nxt Mt.one = M at N b1 d1
    obtain ⟨o, c⟩ := chgN_ok hf (chg_comp hf b1 d1 N.o)
    exact ⟨f.comp M, c, o, by rw [comp_D f d1, hD], N.p, N.l, N.c⟩
  · cases ht
end L3
set_option maxHeartbeats 4000000
namespace L3
open PySem L2 RZ
/-! ### what is given, the tally -/
def SimG : Giv → Giv → Prop
  | [], [] => True
  | x :: G, y :: G' => y.1 = x.1 ∧ (∀ f, memB f y.2 = memB f x.2) ∧ SimG G G'
  | _, _ => False
theorem sim_any (f : Fm) : ∀ {G G' : Giv}, SimG G G' → (G'.any fun x => memB f x.2) = anyG f G
  | [], [], _ => rfl
  | x :: G, [], h => h.elim
  | [], y :: G', h => h.elim
  | x :: G, y :: G', h => by
    have := sim_any f h.2.2
    unfold anyG at this ⊢
    rw [List.any_cons, List.any_cons, this, h.2.1 f]
theorem sim_keys : ∀ {G G' : Giv}, SimG G G' → givK G' = givK G
  | [], [], _ => rfl
  | x :: G, [], h => h.elim
  | [], y :: G', h => h.elim
  | x :: G, y :: G', h => by
    have := sim_keys h.2.2
    show y.1 :: givK G' = x.1 :: givK G
    rw [this, h.1]
theorem giv_keys {D N : Int} : ∀ (ks : List Int) (G : Giv), givN D N ks = some G → givK G = ks
  | [], G, h => by cases h; rfl
  | k :: ks, G, h => by
    unfold givN at h
    rw [nz_eq] at h
    split at h
    · split at h
      · split at h
        · split at h
          · rename_i G1 e
            cases h
            show k :: givK G1 = _
            rw [giv_keys ks G1 e]
          · cases h
        · cases h
      · cases h
    · cases h
abbrev fvg : En → Option Dat := fC F_classes_giving (fCons (fV 1) (fCons (f2 dDiv (fV 2) (f2 dMul (fV 6) (fV 6))) (fNil)))
theorem gv_go {D N : Int} (h : DD D) {s0 s3 s4 s5 s6 s7 s8 s9 s10 : Sl} : ∀ (ks : List Int) (G acc : Giv), givN D N ks = some G → (∀ k ∈ ks, 1 ≤ k ∧ k ≤ 4) → (givK acc ++ ks).Nodup → acc.length + ks.length < 1000 →
    ∃ G', SimG G G' ∧ gvGo 6 fvg [s0, .fz (.int D), .fz (.int N), s3, s4, s5, s6, s7, s8, s9, s10] (ks.map Dat.int) (givK acc) (givV acc) = some (givK (acc ++ G'), givV (acc ++ G'))
  | [], G, acc, hg, _, _, _ => by
    cases hg
    exact ⟨[], trivial, by simp [gvGo]⟩
  | k :: ks, G, acc, hg, hk, hn, hl => by
    unfold givN at hg
    rw [nz_eq] at hg
    obtain ⟨k1, k2⟩ := hk k (List.mem_cons_self ..)
    split at hg
    · rename_i z
      simp only [Bool.and_eq_true, Bool.not_eq_true', decide_eq_false_iff_not] at z
      have zb : (N.fdiv (k * k)).natAbs < 1000 := Nat.le_of_ble_eq_true z.2
      split at hg
      · rename_i gs e1
        split at hg
        · rename_i L e2
          split at hg
          · rename_i G1 e3
            cases hg
            obtain ⟨out, o1, o2⟩ := giving_ok h z.1 zb e1 e2
            have hn2 : (givK (acc ++ [(k, out)]) ++ ks).Nodup := by
              have : givK (acc ++ [(k, out)]) ++ ks = givK acc ++ k :: ks := by simp [givK]
              rw [this]
              exact hn
            obtain ⟨G', S, e⟩ := gv_go h (s0 := s0) (s3 := s3) (s4 := s4) (s5 := s5) (s6 := s6) (s7 := s7) (s8 := s8) (s9 := s9) (s10 := s10) ks G1 (acc ++ [(k, out)]) e3 (fun x hx => hk x (List.mem_cons_of_mem _ hx)) hn2 (by simp at hl ⊢; omega)
            refine ⟨(k, out) :: G', ⟨rfl, fun f => memB_congr o2, S⟩, ?_⟩
            have m := dMul_l (i := k) (j := k) (by omega)
            have kk : k * k ≠ 0 := Int.mul_ne_zero (by omega) (by omega)
            have kb : (k * k).natAbs < 1073741824 := by
              have := nb (x := k) (y := k) (A := 4) (B := 4) (by omega) (by omega)
              omega
            have d := dDiv_ok (i := N) kk kb
            have f1 : fvg ([s0, .fz (.int D), .fz (.int N), s3, s4, s5, s6, s7, s8, s9, s10].set 6 (.fz (.int k))) = some (.tup (out.map Fm.d)) := by
              simp [fvg, m, d, o1]
            have nc : (givK acc).contains k = false := by
              have := (List.nodup_append.mp hn).2.2
              cases q : (givK acc).contains k with
              | false => rfl
              | true => exact absurd rfl (this k (List.contains_iff_mem.mp q) k (List.mem_cons_self ..))
            have lc : (givK acc).length < 100000 := by rw [List.length_map]; omega
            have eK : givK acc ++ [k] = givK (acc ++ [(k, out)]) := by simp [givK]
            have eV : givV acc ++ [.tup (out.map Fm.d)] = givV (acc ++ [(k, out)]) := by simp [givV]
            show (intOf (.int k)).bind _ = _
            show (fvg ([s0, .fz (.int D), .fz (.int N), s3, s4, s5, s6, s7, s8, s9, s10].set 6 (.fz (.int k)))).bind _ = _
            rw [f1]
            show (if (givK acc).contains k = false ∧ (givK acc).length < 100000 then gvGo 6 fvg _ (ks.map Dat.int) (givK acc ++ [k]) (givV acc ++ [.tup (out.map Fm.d)]) else none) = _
            rw [if_pos ⟨nc, lc⟩, eK, eV, e, List.append_assoc]
            rfl
          · cases hg
        · cases hg
      · cases hg
    · cases hg
/-! ### what holds of each class -/
structure Cls (D : Int) (f : Fm) : Prop where
  o : f.ok
  d : D = f.D
  p : 0 < D ∨ 0 < f.a
  c : gcd3 f.a f.b f.c = 1
  l : leadN D f = some f
theorem cls_ok {D : Int} {f : Fm} (h : clsOk D f = true) : Cls D f := by
  unfold clsOk at h
  simp only [Bool.and_eq_true, Bool.or_eq_true, decide_eq_true_eq] at h
  obtain ⟨h1, h2, h3, h4, h5⟩ := h
  refine ⟨okF_ok h1, h2, h3, Nat.eq_of_beq_eq_true h4, ?_⟩
  split at h5
  · rename_i g e
    rw [e, Fm.eq_ok h5]
  · cases h5
structure One (D : Int) (f : Fm) (N : Int) (G : Giv) (m1 : Bool) (k : Nat) : Prop where
  ex : ∃ L e, startsN D f N = some L ∧ ownN D f N L = some (e, k) ∧ (!L.isEmpty) = anyG f G ∧ (0 < D → (!e) = anyG f G) ∧ (!decide (k = 0)) = m1
theorem oneN_ok {D : Int} {f : Fm} {N : Int} {G : Giv} {m1 : Bool} {k : Nat} (h : oneN D f N G m1 = some k) : One D f N G m1 k := by
  unfold oneN at h
  split at h
  · rename_i L e1
    split at h
    · rename_i e k' e2
      split at h
      · rename_i z
        cases h
        simp only [Bool.and_eq_true, Bool.or_eq_true, beq_iff_eq, Bool.not_eq_true', decide_eq_false_iff_not] at z
        exact ⟨L, e, e1, e2, z.1, fun q => z.2.1.resolve_left fun n => n q, z.2.2⟩
      · cases h
    · cases h
  · cases h
abbrev tlb : En → Option Fw := vSeq (vSet 8 (xPure (fProp P_coefficients (fV 7))))
  (vSeq (vIf (fNot (fB (fC F_law_one_right (fCons (fV 7) (fCons (fV 8) (fCons (fV 2) (fCons (fV 4) (fNil)))))))) (vNever) (vNext))
  (vSet 5 (xPure (f2 dAdd (fV 5) (fC dLen (fSq (fC F_law_owned (fCons (fV 7) (fCons (fV 8) (fCons (fV 2) (fNil)))))))))))
theorem tally_go {D : Int} (h : DD D) {N : Int} (hN : N ≠ 0) (hN' : N.natAbs ≤ 24) {x1 : Int × List Fm} {G : Giv} {L1 : List Fm} {G0 : Giv} (S : SimG ((1, L1) :: G0) (x1 :: G)) (hn : (givK (x1 :: G)).Nodup) (hlen : G.length ≤ 10) {s0 s3 s6 s9 s10 : Sl} :
    ∀ (fs : List Fm) (k : Nat) (acc : Int) (s7 s8 : Sl), tallyN D N ((1, L1) :: G0) L1 fs = some k → (∀ f ∈ fs, Cls D f) →
    ∃ s7' s8', forGoV (gN 7) tlb (fs.map Fm.d) [s0, .fz (.int D), .fz (.int N), s3, .fz (.dic (givK (x1 :: G)) (givV (x1 :: G))), .fz (.int acc), s6, s7, s8, s9, s10] = some (.nx [s0, .fz (.int D), .fz (.int N), s3, .fz (.dic (givK (x1 :: G)) (givV (x1 :: G))), .fz (.int (acc + (k : Nat))), s6, s7', s8', s9, s10])
  | [], k, acc, s7, s8, ht, _ => by
    cases ht
    exact ⟨s7, s8, by simp⟩
  | f :: fs, k, acc, s7, s8, ht, hc => by
    unfold tallyN at ht
    split at ht
    · rename_i k1 e1
      split at ht
      · rename_i k2 e2
        cases ht
        have c := hc f (List.mem_cons_self ..)
        obtain ⟨L, e, st, ow, c1, c2, c3⟩ := (oneN_ok e1).ex
        have sa := sim_any f S
        have o1 := one_ok h c.o c.d c.p c.c c.l hN hN' st ow (x1 := x1) (G := G) S.1 hn hlen (c1.trans sa.symm) (fun q => (c2 q).trans sa.symm) (c3.trans (S.2.1 f).symm)
        obtain ⟨P, lP, kk, e3, -⟩ := own_ok h c.o c.d c.p c.c hN hN' st ow
        obtain ⟨s7', s8', e4⟩ := tally_go h hN hN' S hn hlen (s0 := s0) (s3 := s3) (s6 := s6) (s9 := s9) (s10 := s10) fs k2 (acc + (k1 : Nat)) (.fz f.d) (.fz (ti f.a f.b f.c)) e2 fun x hx => hc x (List.mem_cons_of_mem _ hx)
        refine ⟨s7', s8', ?_⟩
        have lP' : ((P.map pD).length : Int) = k1 := by rw [List.length_map, lP]
        have ea : acc + ((k1 + k2 : Nat) : Int) = acc + (k1 : Nat) + (k2 : Nat) := by omega
        rw [ea]
        generalize P.map pD = Ps at e3 lP'
        generalize givK (x1 :: G) = ks at o1 e4 ⊢
        generalize givV (x1 :: G) = vs at o1 e4 ⊢
        rw [← lP'] at e4 ⊢
        simp [tlb, coeffs_ok, o1, e3, e4]
      · cases ht
    · cases ht
end L3
set_option maxHeartbeats 4000000
namespace L3
open PySem L2 RZ
/-! ### one draw of the law -/
theorem lsq_all : (Nums.all fun N => isLs (F_law_squares [.int N]) (sqp N)) = true := by decide +kernel
theorem lsq_ok {N : Int} (h : N ≠ 0) (h' : N.natAbs ≤ 24) : F_law_squares [.int N] = some (.lst ((sqp N).map Dat.int)) := isLs_ok (List.all_eq_true.mp lsq_all N (nums_mem h h'))
theorem sqp_rng {N : Int} : ∀ k ∈ sqp N, 1 ≤ k ∧ k ≤ 4 := by
  unfold sqp
  intro k
  split <;> split <;> split <;> simp <;> omega
theorem sqp_nodup (N : Int) : (sqp N).Nodup := by
  unfold sqp
  split <;> split <;> split <;> decide
theorem cls_len : (clsT.all fun x => !x.2.isEmpty && Nat.blt x.2.length 100) = true := by decide +kernel
theorem turn_ok {D : Int} (h : DD D) {f : Fm} (c : Cls D f) (z : 0 < D) (ht : okTurn D f = true) : ∃ T : Mt, F_turn [f.d] = some T.d ∧ M_changed [f.d, T.d] = some f.d := by
  unfold okTurn at ht
  rw [decide_eq_true z] at ht
  dsimp only at ht
  split at ht
  · rename_i t u e
    rw [mnz_eq] at ht
    split at ht
    · rename_i g e1
      rw [Fm.eq_ok ht] at e1
      have d0 := disc_for f.a f.b f.c (by have := c.o.ha; omega) c.o.hb
      have d0' : F_discriminant_for [f.d] = some (.int D) := by rw [c.d]; exact d0
      have e3 := content_ok (a := f.a) (b := f.b) (c := f.c) (by have := c.o.ha; omega) c.o.hb (by have := c.o.hc; omega)
      rw [c.c] at e3
      have cb := check_bin h c.o c.d (.inl z)
      have n0 : ¬ D < 0 := by omega
      have ct : F_check_turned [f.d] = some .non := by
        simp [F_check_turned, runF, s_check_turned, cb, d0', n0, F_check_primitive, s_check_primitive, e3]
      have tf := turnN_ok c.o c.d e
      refine ⟨turnN f t u, ?_, (chgN_ok c.o e1).2⟩
      simp [F_turn, runF, s_turn, check_frm, ct, tf]
    · cases ht
  · cases ht
abbrev q1 : En → Option Fw := vSet 1 (xCall0 0 F_law_drawn_whole)
abbrev q2 : En → Option Fw := vSet 2 (xOp dMul (xOp dAdd (xPure (fK (.int 1))) (xCall1 0 F_law_dip (xPure (fK (.int 24))))) (xOp dSub (xPure (fK (.int 1))) (xOp dMul (xPure (fK (.int 2))) (xCall1 0 F_law_dip (xPure (fK (.int 2)))))))
abbrev q3 : En → Option Fw := vGv 3 4 5 6 (fC F_classes (fCons (fV 1) (fNil))) (fK (.int 0)) (fSq (fC F_law_squares (fCons (fV 2) (fNil)))) fvg
abbrev q4 : En → Option Fw := vFor (fSq (fV 3)) 7 tlb
abbrev q5 : En → Option Fw := vSet 9 (xPure (fC F_law_rests (fCons (fV 1) (fCons (fV 2) (fNil)))))
abbrev q6 : En → Option Fw := vIf (fB (f2 dLt (fV 1) (fK (.int 0)))) (vSet 9 (xPure (fIf (fB (f2 dGt (fV 2) (fK (.int 0)))) (f2 dMul (fV 9) (f3 dGetD (fDisp2 (f1 dNeg (fK (.int 4))) (fK (.int 4)) (f1 dNeg (fK (.int 3))) (fK (.int 6))) (fV 1) (fK (.int 2)))) (fK (.int 0))))) (vNext)
abbrev q7 : En → Option Fw := vIf (fB (f2 dNe (fV 5) (fV 9))) (vNever) (vNext)
abbrev q8 : En → Option Fw := vSet 7 (xOp dIxT (xPure (fV 3)) (xCall1 0 F_law_dip (xPure (fC dLen (fSq (fV 3))))))
abbrev q9 : En → Option Fw := vSet 10 (xCall1 0 F_law_change (xOp dAdd (xPure (fK (.int 1))) (xCall1 0 F_law_dip (xPure (fK (.int 3))))))
abbrev q10 : En → Option Fw := vIf (fB (f2 dNe (fC F_is_solved (fCons (fMeth M_changed (fV 7) (fV 10)) (fCons (fV 2) (fNil)))) (fC F_is_solved (fCons (fV 7) (fCons (fV 2) (fNil)))))) (vNever) (vNext)
abbrev q11 : En → Option Fw := vRet (xPure (fOrV (f2 dLt (fV 1) (fK (.int 0))) (f2 dEqF (fMeth M_changed (fV 7) (fC F_turn (fCons (fV 7) (fNil)))) (fV 7))))
theorem law_right_q : F_law_right = runW (vSeq q1 (vSeq q2 (vSeq q3 (vSeq q4 (vSeq q5 (vSeq q6 (vSeq q7 (vSeq q8 (vSeq q9 (vSeq q10 q11)))))))))) 10 := rfl
theorem vseq_nx {a b : En → Option Fw} {ρ ρ' : En} (h : a ρ = some (.nx ρ')) : vSeq a b ρ = b ρ' := by
  unfold vSeq
  rw [h]
  rfl
theorem q1_ok {n : Nat} {ws : List Dat} (g : good n ws) (hn : n < 1000) {s1 s2 s3 s4 s5 s6 s7 s8 s9 s10 : Sl} : ∃ (ws' : List Dat) (D : Int), DD D ∧ good (n + 40) ws' ∧ q1 [.ow ws, s1, s2, s3, s4, s5, s6, s7, s8, s9, s10] = some (.nx [.ow ws', .fz (.int D), s2, s3, s4, s5, s6, s7, s8, s9, s10]) := by
  obtain ⟨D, ws', e, d, g'⟩ := dw_ok g (by omega)
  exact ⟨ws', D, d, g', by simp [q1, e]⟩
theorem q2_ok {n : Nat} {ws : List Dat} (g : good n ws) (hn : n < 1000) {s1 s2 s3 s4 s5 s6 s7 s8 s9 s10 : Sl} : ∃ (ws' : List Dat) (N : Int), N ≠ 0 ∧ N.natAbs ≤ 24 ∧ good (n + 2) ws' ∧ q2 [.ow ws, s1, s2, s3, s4, s5, s6, s7, s8, s9, s10] = some (.nx [.ow ws', s1, .fz (.int N), s3, s4, s5, s6, s7, s8, s9, s10]) := by
  obtain ⟨a, ws1, e1, a0, a1, g1⟩ := dip_ok g (many := 24) (by decide) (by decide) (by omega)
  obtain ⟨b, ws2, e2, b0, b1, g2⟩ := dip_ok g1 (many := 2) (by decide) (by decide) (by omega)
  have m1 := dMul_l (i := 2) (j := b) (by decide)
  have m2 := dMul_l (i := 1 + a) (j := 1 - 2 * b) (by omega)
  refine ⟨ws2, (1 + a) * (1 - 2 * b), ?_, ?_, g2, by simp [q2, e1, e2, m1, m2]⟩
  · exact Int.mul_ne_zero (by omega) (by omega)
  · have c : b = 0 ∨ b = 1 := by omega
    rcases c with rfl | rfl <;> omega
theorem q3_ok {D N : Int} (h : DD D) {fs : List Fm} (hf : F_classes [.int D] = some (.tup (fs.map Fm.d))) (hN : N ≠ 0) (hN' : N.natAbs ≤ 24) {G : Giv} (hg : givN D N (sqp N) = some G) {s0 s3 s4 s5 s6 s7 s8 s9 s10 : Sl} :
    ∃ G', SimG G G' ∧ q3 [s0, .fz (.int D), .fz (.int N), s3, s4, s5, s6, s7, s8, s9, s10] = some (.nx [s0, .fz (.int D), .fz (.int N), .fz (.tup (fs.map Fm.d)), .fz (.dic (givK G') (givV G')), .fz (.int 0), .no, s7, s8, s9, s10]) := by
  obtain ⟨G', S, e⟩ := gv_go h (s0 := s0) (s3 := .fz (.tup (fs.map Fm.d))) (s4 := .no) (s5 := .fz (.int 0)) (s6 := .no) (s7 := s7) (s8 := s8) (s9 := s9) (s10 := s10) (sqp N) G [] hg sqp_rng (sqp_nodup N) (by have := sqp_len N; simp; omega)
  refine ⟨G', S, ?_⟩
  have ls := lsq_ok hN hN'
  have e : gvGo 6 fvg [s0, .fz (.int D), .fz (.int N), .fz (.tup (fs.map Fm.d)), .no, .fz (.int 0), .no, s7, s8, s9, s10] ((sqp N).map Dat.int) [] [] = some (givK G', givV G') := e
  generalize (sqp N).map Dat.int = Ns at e ls
  generalize fs.map Fm.d = Fs at e hf ⊢
  show vGv 3 4 5 6 (fC F_classes (fCons (fV 1) (fNil))) (fK (.int 0)) (fSq (fC F_law_squares (fCons (fV 2) (fNil)))) fvg _ = _
  generalize fvg = fv at e ⊢
  simp [vGv, hf, ls, e]
theorem due_ok {D N : Int} {r : Nat} {s0 s3 s4 s5 s6 s7 s8 s10 : Sl} : q6 [s0, .fz (.int D), .fz (.int N), s3, s4, s5, s6, s7, s8, .fz (.int (r : Nat)), s10] = some (.nx [s0, .fz (.int D), .fz (.int N), s3, s4, s5, s6, s7, s8, .fz (.int (dueN D N r : Nat)), s10]) := by
  unfold dueN
  by_cases z : D < 0
  · by_cases z2 : 0 < N
    · have dd : dDisp2 (.int (-4)) (.int 4) (.int (-3)) (.int 6) = some (.dic [-4, -3] [.int 4, .int 6]) := rfl
      by_cases w : D = -4
      · have m := dMul_r (i := (r : Int)) (j := 4) (by decide)
        have g : dGetD (.dic [-4, -3] [.int 4, .int 6]) (.int D) (.int 2) = some (.int 4) := by rw [w]; rfl
        simp [q6, z, z2, dd, g, m]
        simp [w]
      · by_cases w2 : D = -3
        · have m := dMul_r (i := (r : Int)) (j := 6) (by decide)
          have g : dGetD (.dic [-4, -3] [.int 4, .int 6]) (.int D) (.int 2) = some (.int 6) := by rw [w2]; rfl
          simp [q6, z, z2, dd, g, m]
          simp [w2]
        · have m := dMul_r (i := (r : Int)) (j := 2) (by decide)
          have g : dGetD (.dic [-4, -3] [.int 4, .int 6]) (.int D) (.int 2) = some (.int 2) := by
            have w3 : ¬ (-4 : Int) = D := by omega
            have w4 : ¬ (-3 : Int) = D := by omega
            simp [dGetD, getD, w3, w4]
          simp [q6, z, z2, dd, g, m]
          simp [w, w2]
    · simp [q6, z, z2]
  · simp [q6, z]
theorem atD_mem (fs : List Fm) {d : Int} (h : 0 ≤ d) (h' : d < fs.length) : ∃ f ∈ fs, dIxT (.tup (fs.map Fm.d)) (.int d) = some f.d := by
  have hl : d.toNat < fs.length := by omega
  refine ⟨fs[d.toNat], List.getElem_mem hl, ?_⟩
  show (ixN (fs.map Fm.d).length d).bind _ = _
  have e : ixN (fs.map Fm.d).length d = some d.toNat := by
    rw [List.length_map]
    unfold ixN
    rw [if_pos h, if_pos (by omega)]
  rw [e]
  simp [hl]
theorem q8_ok {n : Nat} {ws : List Dat} (g : good n ws) (hn : n < 1000) {fs : List Fm} (h0 : fs ≠ []) (h1 : fs.length < 100) {s1 s2 s4 s5 s6 s7 s8 s9 s10 : Sl} : ∃ (ws' : List Dat) (f : Fm), f ∈ fs ∧ good (n + 1) ws' ∧ q8 [.ow ws, s1, s2, .fz (.tup (fs.map Fm.d)), s4, s5, s6, s7, s8, s9, s10] = some (.nx [.ow ws', s1, s2, .fz (.tup (fs.map Fm.d)), s4, s5, s6, .fz f.d, s8, s9, s10]) := by
  have hp : 0 < fs.length := by cases fs; exact absurd rfl h0; simp
  obtain ⟨d, ws', e, d0, d1, g'⟩ := dip_ok g (many := (fs.length : Nat)) (by omega) (by omega) (by omega)
  obtain ⟨f, hf, e2⟩ := atD_mem fs d0 d1
  refine ⟨ws', f, hf, g', ?_⟩
  have l : ((fs.map Fm.d).length : Int) = fs.length := by rw [List.length_map]
  rw [← l] at e
  generalize fs.map Fm.d = Fs at e e2 ⊢
  simp [q8, e, e2]
theorem q9_ok {n : Nat} {ws : List Dat} (g : good n ws) (hn : n < 1000) {s1 s2 s3 s4 s5 s6 s7 s8 s9 s10 : Sl} : ∃ (ws' : List Dat) (js : List Int), 1 ≤ js.length ∧ js.length ≤ 3 ∧ (∀ j ∈ js, -2 ≤ j ∧ j ≤ 2) ∧ good (n + 4) ws' ∧ q9 [.ow ws, s1, s2, s3, s4, s5, s6, s7, s8, s9, s10] = some (.nx [.ow ws', s1, s2, s3, s4, s5, s6, s7, s8, s9, .fz (js.foldl Mt.nxt Mt.one).d]) := by
  obtain ⟨a, ws1, e1, a0, a1, g1⟩ := dip_ok g (many := 3) (by decide) (by decide) (by omega)
  obtain ⟨js, ws2, e2, l, b, g2⟩ := cg_okV g1 (m := 1 + a) (by omega) (by omega) (by omega)
  refine ⟨ws2, js, by omega, by omega, b, g2, ?_⟩
  generalize js.foldl Mt.nxt Mt.one = M at e2 ⊢
  simp [q9, e1, e2]
theorem okDN_ok {D N : Int} {fs : List Fm} (h : okDN D N fs = true) : ∃ L1 G k r, givN D N (sqp N) = some ((1, L1) :: G) ∧ tallyN D N ((1, L1) :: G) L1 fs = some k ∧ restN D N = some r ∧ k = dueN D N r := by
  unfold okDN at h
  split at h
  · rename_i L1 G e1
    split at h
    · rename_i k e2
      split at h
      · rename_i r e3
        exact ⟨L1, G, k, r, e1, e2, e3, Nat.eq_of_beq_eq_true h⟩
      · cases h
    · cases h
  · cases h
theorem tally_mem {D N : Int} {G : Giv} {L1 : List Fm} : ∀ (fs : List Fm) (k : Nat), tallyN D N G L1 fs = some k → ∀ f ∈ fs, ∃ L, startsN D f N = some L
  | [], _, _, f, hf => by cases hf
  | x :: fs, k, h, f, hf => by
    unfold tallyN at h
    split at h
    · rename_i k1 e1
      split at h
      · rename_i k2 e2
        rcases List.mem_cons.mp hf with q | q
        · subst q
          obtain ⟨L, e, st, _⟩ := (oneN_ok e1).ex
          exact ⟨L, st⟩
        · exact tally_mem fs k2 e2 f q
      · cases h
    · cases h
theorem right_of (A : (clsT.all fun x => Nums.all fun N => okDN x.1 N x.2) = true) (B : (clsT.all fun x => x.2.all (okTree x.1)) = true) : RightT := by
  intro m c m0 c0
  have g0 : good 0 [.int m, .int c, .int 0] := ⟨m, c, 0, rfl, by omega, by omega⟩
  obtain ⟨ws1, D, hD, g1, e1⟩ := q1_ok g0 (by omega) (s1 := .no) (s2 := .no) (s3 := .no) (s4 := .no) (s5 := .no) (s6 := .no) (s7 := .no) (s8 := .no) (s9 := .no) (s10 := .no)
  obtain ⟨ws2, N, hN, hN', g2, e2⟩ := q2_ok g1 (by omega) (s1 := .fz (.int D)) (s2 := .no) (s3 := .no) (s4 := .no) (s5 := .no) (s6 := .no) (s7 := .no) (s8 := .no) (s9 := .no) (s10 := .no)
  obtain ⟨fs, hfs, ecl⟩ := classes_ok hD
  have kA := okDN_ok (List.all_eq_true.mp (List.all_eq_true.mp A _ hfs) N (nums_mem hN hN'))
  have kB := List.all_eq_true.mp (List.all_eq_true.mp B _ hfs : fs.all (okTree D) = true)
  have kC := List.all_eq_true.mp (List.all_eq_true.mp clsOk_all _ hfs : (fs.all fun f => clsOk D f) = true)
  have kT := List.all_eq_true.mp (List.all_eq_true.mp okTurn_all _ hfs : (fs.all fun f => okTurn D f) = true)
  have kL := List.all_eq_true.mp cls_len _ hfs
  rw [Bool.and_eq_true] at kL
  have fne : fs ≠ [] := fun z => by rw [z] at kL; cases (show false = true from kL.1)
  have fl : fs.length < 100 := Nat.le_of_ble_eq_true kL.2
  obtain ⟨L1, G, k, r, k1, k2, k3, k4⟩ := kA
  have hc : ∀ f ∈ fs, Cls D f := fun f hf => cls_ok (kC f hf)
  obtain ⟨G', S, e3⟩ := q3_ok hD ecl hN hN' k1 (s0 := .ow ws2) (s3 := .no) (s4 := .no) (s5 := .no) (s6 := .no) (s7 := .no) (s8 := .no) (s9 := .no) (s10 := .no)
  have kG := (sim_keys S).trans (giv_keys _ _ k1)
  have nd : (givK G').Nodup := by rw [kG]; exact sqp_nodup N
  have ll : G'.length ≤ 4 := by
    have : (givK G').length ≤ 4 := by rw [kG]; exact sqp_len N
    rwa [List.length_map] at this
  cases G' with
  | nil => exact S.elim
  | cons x1 G1 =>
    obtain ⟨s7, s8, e4⟩ := tally_go hD hN hN' S nd (by simp at ll; omega) (s0 := .ow ws2) (s3 := .fz (.tup (fs.map Fm.d))) (s6 := .no) (s9 := .no) (s10 := .no) fs k 0 .no .no k2 hc
    have e4' : q4 [.ow ws2, .fz (.int D), .fz (.int N), .fz (.tup (fs.map Fm.d)), .fz (.dic (givK (x1 :: G1)) (givV (x1 :: G1))), .fz (.int 0), .no, .no, .no, .no, .no] = some (.nx [.ow ws2, .fz (.int D), .fz (.int N), .fz (.tup (fs.map Fm.d)), .fz (.dic (givK (x1 :: G1)) (givV (x1 :: G1))), .fz (.int (k : Nat)), .no, s7, s8, .no, .no]) := by
      rw [Int.zero_add] at e4
      exact e4
    generalize Sl.fz (.dic (givK (x1 :: G1)) (givV (x1 :: G1))) = s4 at e3 e4'
    have e5 : q5 [.ow ws2, .fz (.int D), .fz (.int N), .fz (.tup (fs.map Fm.d)), s4, .fz (.int (k : Nat)), .no, s7, s8, .no, .no] = some (.nx [.ow ws2, .fz (.int D), .fz (.int N), .fz (.tup (fs.map Fm.d)), s4, .fz (.int (k : Nat)), .no, s7, s8, .fz (.int (r : Nat)), .no]) := by
      have := rest_ok hN hN' k3
      simp [q5, this]
    have e6 := due_ok (D := D) (N := N) (r := r) (s0 := .ow ws2) (s3 := .fz (.tup (fs.map Fm.d))) (s4 := s4) (s5 := .fz (.int (k : Nat))) (s6 := .no) (s7 := s7) (s8 := s8) (s10 := .no)
    rw [← k4] at e6
    have e7 : q7 [.ow ws2, .fz (.int D), .fz (.int N), .fz (.tup (fs.map Fm.d)), s4, .fz (.int (k : Nat)), .no, s7, s8, .fz (.int (k : Nat)), .no] = some (.nx [.ow ws2, .fz (.int D), .fz (.int N), .fz (.tup (fs.map Fm.d)), s4, .fz (.int (k : Nat)), .no, s7, s8, .fz (.int (k : Nat)), .no]) := by
      simp [q7]
    obtain ⟨ws3, f, hf, g3, e8⟩ := q8_ok g2 (by omega) fne fl (s1 := .fz (.int D)) (s2 := .fz (.int N)) (s4 := s4) (s5 := .fz (.int (k : Nat))) (s6 := .no) (s7 := s7) (s8 := s8) (s9 := .fz (.int (k : Nat))) (s10 := .no)
    obtain ⟨ws4, js, j1, j2, j3, g4, e9⟩ := q9_ok g3 (by omega) (s1 := .fz (.int D)) (s2 := .fz (.int N)) (s3 := .fz (.tup (fs.map Fm.d))) (s4 := s4) (s5 := .fz (.int (k : Nat))) (s6 := .no) (s7 := .fz f.d) (s8 := s8) (s9 := .fz (.int (k : Nat))) (s10 := .no)
    have cf := hc f hf
    obtain ⟨L, st⟩ := tally_mem fs k k2 f hf
    obtain ⟨g, eg, og, dg, pg, lg, cg⟩ := changed_ok cf.o cf.d (kB f hf) j1 j2 j3
    have v1 := is_solved_ok hD og dg pg lg cg hN hN' st
    have v2 := is_solved_ok hD cf.o cf.d cf.p cf.l cf.c hN hN' st
    have e10 : q10 [.ow ws4, .fz (.int D), .fz (.int N), .fz (.tup (fs.map Fm.d)), s4, .fz (.int (k : Nat)), .no, .fz f.d, s8, .fz (.int (k : Nat)), .fz (js.foldl Mt.nxt Mt.one).d] = some (.nx [.ow ws4, .fz (.int D), .fz (.int N), .fz (.tup (fs.map Fm.d)), s4, .fz (.int (k : Nat)), .no, .fz f.d, s8, .fz (.int (k : Nat)), .fz (js.foldl Mt.nxt Mt.one).d]) := by
      generalize js.foldl Mt.nxt Mt.one = M at eg ⊢
      simp [q10, eg, v1, v2]
    have e11 : q11 [.ow ws4, .fz (.int D), .fz (.int N), .fz (.tup (fs.map Fm.d)), s4, .fz (.int (k : Nat)), .no, .fz f.d, s8, .fz (.int (k : Nat)), .fz (js.foldl Mt.nxt Mt.one).d] = some (.rt (.bl true) [.ow ws4, .fz (.int D), .fz (.int N), .fz (.tup (fs.map Fm.d)), s4, .fz (.int (k : Nat)), .no, .fz f.d, s8, .fz (.int (k : Nat)), .fz (js.foldl Mt.nxt Mt.one).d]) := by
      by_cases z : D < 0
      · simp [q11, z]
      · have zp : 0 < D := by
          rcases cf.p with q | q
          · exact q
          · have d0 := cf.o.D0
            have e : f.D = f.b * f.b - 4 * f.a * f.c := rfl
            rw [← e, ← cf.d] at d0
            omega
        obtain ⟨T, t1, t2⟩ := turn_ok hD cf zp (kT f hf)
        generalize (js.foldl Mt.nxt Mt.one).d = dM
        simp [q11, z, t1, t2]
    refine ⟨ws4, ?_⟩
    rw [law_right_q]
    show (vSeq q1 _ [.ow [.int m, .int c, .int 0], .no, .no, .no, .no, .no, .no, .no, .no, .no, .no]).bind _ = _
    rw [vseq_nx e1, vseq_nx e2, vseq_nx e3, vseq_nx e4', vseq_nx e5, vseq_nx e6, vseq_nx e7, vseq_nx e8, vseq_nx e9, vseq_nx e10, e11]
    rfl
end L3
set_option maxHeartbeats 0
namespace L3
theorem right_true : RightT := right_of okDN_all okTr_all
end L3
open PySem PySem.W PySem.Calls PyProof.Rows
theorem PySem.Challenge.cw_formworld_k71_whole_one_truth_of_what_cl_holds : PySem.Challenge.rw_formworld_k71_whole_one_truth_of_what_cl.Holds := by
  w_on; o_law
  refine HandSHeadRun.head_any (r := OpenLaw.row PySem.Challenge.rw_formworld_k71_whole_one_truth_of_what_cl) (q := view (OpenLaw.row PySem.Challenge.rw_formworld_k71_whole_one_truth_of_what_cl).prog [121]) (H := L3.hkL) (ob := L3.obL) (M := 20000) (loose := L3.names) (d := HandSHeadRun.topDef (OpenLaw.row PySem.Challenge.rw_formworld_k71_whole_one_truth_of_what_cl).prog 121) (kwd := []) L3.obL_eq
    (by kernel_rfl) (fun s => by kernel_rfl) L3.runL (by kernel_rfl) (by kernel_rfl) (by kernel_rfl) (by rfl) (by first | assumption | decide +kernel) (by decide +kernel) ⟨rfl, rfl, rfl, rfl, rfl, by decide +kernel⟩ ?hw ?hc
  case hw => w_witness2
  case hc =>
    refine L2.walk_ofE (l := PySem.Challenge.rw_formworld_k71_whole_one_truth_of_what_cl) (n := 63) (k := 17) (x := "_law_script") (CX := L2.CX0) rfl (by decide) (by kernel_rfl) ⟨rfl, by decide, by decide⟩ ?F (fun _ _ _ _ z => z)
    intro w mg fa h Y G hmg0
    obtain ⟨K, KX, c⟩ := Y
    have hmg : mg ("law" : PySem.Str) = some (.ref fa) := by
      have e : (HandSHeadRun.topDef (OpenLaw.row PySem.Challenge.rw_formworld_k71_whole_one_truth_of_what_cl).prog 121).name = ("law" : PySem.Str) := by kernel_rfl
      rw [← e]
      exact hmg0
    have W := L3.wf_of KX G c
    obtain ⟨fd, F, m, hb⟩ := L3.ok_law (P := (PySem.Challenge.rw_formworld_k71_whole_one_truth_of_what_cl).prog) (w := w) L3.right_true W
    cases hmg.symm.trans m
    exact ⟨K, fd, L3.spLaw K, KX, hb, fun H a ns _ _ hS => ⟨a, ns, rfl, hS, fun _ => rfl⟩, fun base _ _ => F base⟩
