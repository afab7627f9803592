import PyProof.Rows.All
import Wide.All
import OpenK.AllK
import Wide.FinOn
import HandS.ForMost
import HandS.Evl
import HandS.Style
import HandS.TupAny
import HandS.TupMul
import HandS.TupLe
import HandS.Deep
import HandS.IsInst
import HandS.Zip
import HandS.More
import HandS.Conv
import HandS.DictTup
import KE.SortData
import KE.KDictCopyH
import KE.KDictSum
import KE.KDictDisplayH
import HandS.Defaults
import HandS.ForExc
import KE.KStateDown
import HandS.Exc
import HandS.Words
import HandS.WordsExc
import HandS.Head0
import HandS.Head1
import HandS.Head2
import HandS.HeadEnd
import HandS.HeadHook1
import HandS.HeadHook2
import HandS.HeadHook3
import HandS.HeadHook4
import PySem.Challenge.RW_fakehunt_k43_whole_papers_hold
set_option Elab.async false
set_option linter.all false
set_option maxRecDepth 100000
set_option maxHeartbeats 4000000
namespace Fkh
open PySem PySem.Spec PyProof.Rows L2 Evl
abbrev Fg := PySem.W.Frag
/-! ### data: what never changes -/
mutual
inductive Td (K : Fg) (H : Hp) : V → PyData → Prop
  | non : Td K H .non .none
  | bl (b : Bool) : Td K H (.bl b) (.bool b)
  | int (i : Int) : Td K H (.int i) (.int i)
  | str (x : Str) : Td K H (.str x) (.str x)
  | tup {a : Addr} {xs : List V} {ds : List PyData} : SqT K H a xs → Tds K H xs ds → Td K H (.ref a) (.tuple ds)
inductive Tds (K : Fg) (H : Hp) : List V → List PyData → Prop
  | nil : Tds K H [] []
  | cons {v : V} {vs : List V} {d : PyData} {ds : List PyData} : Td K H v d → Tds K H vs ds → Tds K H (v :: vs) (d :: ds)
end
/-- tuples stay -/
def Tx (H H' : Hp) : Prop := ∀ a xs, Rd H a (.tup xs) → Rd H' a (.tup xs)
theorem Tx.refl (H : Hp) : Tx H H := fun _ _ h => h
theorem Tx.trans {H H1 H2 : Hp} (a : Tx H H1) (b : Tx H1 H2) : Tx H H2 := fun x o h => b x o (a x o h)
theorem Tx.of {H H' : Hp} (e : Ex H H') : Tx H H' := fun a xs h => ex_rd e h
theorem Tx.chg {H : Hp} {a : Addr} {o u : HO} (h : H a = some o) (h1 : ∀ xs, o ≠ .tup xs) (h2 : ∀ ob xs, o ≠ .frz ob (.tup xs)) : Tx H (upd H a u) := fun b xs r => by
  rcases r with r | ⟨ob, r⟩
  · have hb : b ≠ a := fun e => by
      rw [e, h] at r
      exact h1 xs (Option.some.inj r)
    exact .inl (by rw [upd_ne hb]; exact r)
  · have hb : b ≠ a := fun e => by
      rw [e, h] at r
      exact h2 ob xs (Option.some.inj r)
    exact .inr ⟨ob, by rw [upd_ne hb]; exact r⟩
theorem Tx.lst {H : Hp} {a : Addr} {xs : List V} {u : HO} (h : H a = some (.lst xs)) : Tx H (upd H a u) := Tx.chg h (fun _ e => nomatch e) fun _ _ e => nomatch e
theorem Tx.dT {H : Hp} {a : Addr} {kvs : List (List L2.Key × V)} {u : HO} (h : H a = some (.dT kvs)) : Tx H (upd H a u) := Tx.chg h (fun _ e => nomatch e) fun _ _ e => nomatch e
theorem sqt_tx {K : Fg} {H H' : Hp} {a : Addr} {xs : List V} (e : Tx H H') (h : SqT K H a xs) : SqT K H' a xs := by
  rcases h with h | h
  · exact .inl (e _ _ h)
  · exact .inr h
mutual
theorem Td.tx {K : Fg} {H H' : Hp} (e : Tx H H') : ∀ {v : V} {d : PyData}, Td K H v d → Td K H' v d
  | _, _, .non => .non
  | _, _, .bl b => .bl b
  | _, _, .int i => .int i
  | _, _, .str x => .str x
  | _, _, .tup h hs => .tup (sqt_tx e h) (Tds.tx e hs)
theorem Tds.tx {K : Fg} {H H' : Hp} (e : Tx H H') : ∀ {vs : List V} {ds : List PyData}, Tds K H vs ds → Tds K H' vs ds
  | _, _, .nil => .nil
  | _, _, .cons h hs => .cons (Td.tx e h) (Tds.tx e hs)
end
mutual
theorem Td.dp {K : Fg} {H : Hp} : ∀ {v : V} {d : PyData}, Td K H v d → Dp K H v d
  | _, _, .non => .non
  | _, _, .bl b => .bl b
  | _, _, .int i => .int i
  | _, _, .str x => .str x
  | _, _, .tup h hs => .tup h (Tds.dp hs)
theorem Tds.dp {K : Fg} {H : Hp} : ∀ {vs : List V} {ds : List PyData}, Tds K H vs ds → DpAll K H vs ds
  | _, _, .nil => .nil
  | _, _, .cons h hs => .cons (Td.dp h) (Tds.dp hs)
end
section
variable {K : Fg} {H H' : Hp}
theorem Td.ex {v : V} {d : PyData} (e : Ex H H') (h : Td K H v d) : Td K H' v d := Td.tx (Tx.of e) h
theorem Tds.ex {vs : List V} {ds : List PyData} (e : Ex H H') (h : Tds K H vs ds) : Tds K H' vs ds := Tds.tx (Tx.of e) h
theorem Tds.len : ∀ {vs : List V} {ds : List PyData}, Tds K H vs ds → vs.length = ds.length
  | _, _, .nil => rfl
  | _, _, .cons _ t => by rw [List.length_cons, List.length_cons, Tds.len t]
theorem Tds.get : ∀ {vs : List V} {ds : List PyData} {i : Nat} {d : PyData}, Tds K H vs ds → ds[i]? = some d → ∃ v, vs[i]? = some v ∧ Td K H v d
  | _, _, _, _, .nil, e => by simp at e
  | _, _, 0, _, .cons h _, e => by
    simp at e
    subst e
    exact ⟨_, rfl, h⟩
  | _, _, i + 1, d, .cons _ t, e => by
    obtain ⟨v, h1, h2⟩ := Tds.get (i := i) (d := d) t (by simpa using e)
    exact ⟨v, by simpa using h1, h2⟩
theorem Tds.got : ∀ {vs : List V} {ds : List PyData} {i : Nat} {v : V}, Tds K H vs ds → vs[i]? = some v → ∃ d, ds[i]? = some d ∧ Td K H v d
  | _, _, _, _, .nil, e => by simp at e
  | _, _, 0, _, .cons h _, e => by
    simp at e
    subst e
    exact ⟨_, rfl, h⟩
  | _, _, i + 1, v, .cons _ t, e => by
    obtain ⟨d, h1, h2⟩ := Tds.got (i := i) (v := v) t (by simpa using e)
    exact ⟨d, by simpa using h1, h2⟩
theorem Tds.app : ∀ {vs ws : List V} {ds es : List PyData}, Tds K H vs ds → Tds K H ws es → Tds K H (vs ++ ws) (ds ++ es)
  | _, _, _, _, .nil, t => t
  | _, _, _, _, .cons h s, t => .cons h (Tds.app s t)
theorem Tds.take : ∀ {vs : List V} {ds : List PyData} (n : Nat), Tds K H vs ds → Tds K H (vs.take n) (ds.take n)
  | _, _, 0, _ => by simpa using Tds.nil
  | _, _, n + 1, .nil => by simpa using Tds.nil
  | _, _, n + 1, .cons h t => by simpa using Tds.cons h (Tds.take n t)
theorem Tds.drop : ∀ {vs : List V} {ds : List PyData} (n : Nat), Tds K H vs ds → Tds K H (vs.drop n) (ds.drop n)
  | _, _, 0, t => by simpa using t
  | _, _, n + 1, .nil => by simpa using Tds.nil
  | _, _, n + 1, .cons h t => by simpa using Tds.drop n t
theorem Tds.set {v : V} {d : PyData} (h : Td K H v d) : ∀ {vs : List V} {ds : List PyData} (n : Nat), Tds K H vs ds → Tds K H (vs.set n v) (ds.set n d)
  | _, _, _, .nil => .nil
  | _, _, 0, .cons _ t => .cons h t
  | _, _, n + 1, .cons g t => .cons g (Tds.set h n t)
theorem Tds.one {v : V} {d : PyData} (h : Td K H v d) : Tds K H [v] [d] := .cons h .nil
theorem Tds.rev {vs : List V} {ds : List PyData} (h : Tds K H vs ds) : Tds K H vs.reverse ds.reverse := by
  induction ds generalizing vs with
  | nil =>
    cases h
    exact .nil
  | cons d ds ih =>
    cases h with
    | cons h t =>
      rw [List.reverse_cons, List.reverse_cons]
      exact Tds.app (ih t) (Tds.one h)
theorem Tds.dropLast {vs : List V} {ds : List PyData} (h : Tds K H vs ds) : Tds K H vs.dropLast ds.dropLast := by
  rw [List.dropLast_eq_take, List.dropLast_eq_take, h.len]
  exact h.take _
theorem Tds.atI {vs : List V} {ds : List PyData} {i : Int} {d : PyData} (h : Tds K H vs ds) (e : atI ds i = some d) : ∃ v, L2.atI vs i = some v ∧ Td K H v d := by
  unfold L2.atI at e ⊢
  rw [h.len]
  cases q : ixN ds.length i with
  | none =>
    rw [q] at e
    cases e
  | some j =>
    rw [q] at e
    exact h.get e
theorem Td.int_inv {v : V} {i : Int} (h : Td K H v (.int i)) : v = .int i := by
  cases h
  rfl
theorem Td.str_inv {v : V} {x : Str} (h : Td K H v (.str x)) : v = .str x := by
  cases h
  rfl
theorem Td.bl_inv {v : V} {b : Bool} (h : Td K H v (.bool b)) : v = .bl b := by
  cases h
  rfl
theorem Td.non_inv {v : V} (h : Td K H v .none) : v = .non := by
  cases h
  rfl
theorem Td.tup_inv {v : V} {ds : List PyData} (h : Td K H v (.tuple ds)) : ∃ a xs, v = .ref a ∧ SqT K H a xs ∧ Tds K H xs ds := by
  cases h with
  | tup h hs => exact ⟨_, _, rfl, h, hs⟩
end

/-! ### what a slot holds -/
/-- a dict's pairs: keys of two ints, values ints -/
abbrev Kvs := List ((Int × Int) × Int)
def encK (k : Int × Int) : List L2.Key := [Sum.inl k.1, Sum.inl k.2]
def encD (kvs : Kvs) : List (List L2.Key × V) := kvs.map fun p => (encK p.1, V.int p.2)
inductive Ent where
  /-- data -/
  | d (x : PyData)
  /-- a list of data that stood when the def began; one of the def's own -/
  | l (ds : List PyData) | o (ds : List PyData)
  /-- a dict that stood; one of the def's own -/
  | r (kvs : Kvs) | m (ad : Option Addr) (kvs : Kvs)
def Ent.own : Ent → Bool
  | .o _ => true
  | .m _ _ => true
  | _ => false
def Holds (K : Fg) (H0 F H : Hp) : Ent → V → Prop
  | .d x, v => Td K H v x
  | .l ds, v => ∃ a xs, v = .ref a ∧ SqL K H0 a xs ∧ Tds K H0 xs ds
  | .o ds, v => ∃ a xs, v = .ref a ∧ F a = none ∧ H a = some (.lst xs) ∧ Tds K H xs ds
  | .r kvs, v => ∃ a, v = .ref a ∧ H0 a = some (.dT (encD kvs))
  | .m ad kvs, v => ∃ a, v = .ref a ∧ F a = none ∧ H a = some (.dT (encD kvs)) ∧ ∀ x, ad = some x → x = a
abbrev Env := List (Option Ent)
structure Sg (K : Fg) (H0 F H : Hp) (σ : L2.St) (δ : Env) : Prop where
  base : Ex H0 F
  ex : Ex F H
  len : σ.length = δ.length
  has : ∀ (i : Nat) (e : Ent), δ[i]? = some (some e) → ∃ v, σ[i]? = some (some v) ∧ Holds K H0 F H e v
  sep : ∀ (i j : Nat) (e e' : Ent), i ≠ j → δ[i]? = some (some e) → δ[j]? = some (some e') → e.own = true → e'.own = true → σ[i]? ≠ σ[j]?
section
variable {K : Fg} {H0 F H H' : Hp} {σ : L2.St} {δ : Env}
theorem Holds.ex {e : Ent} {v : V} (x : Ex H H') (h : Holds K H0 F H e v) : Holds K H0 F H' e v := by
  cases e with
  | d y => exact Td.ex x h
  | l ds => exact h
  | o ds =>
    obtain ⟨a, xs, e, n, q, t⟩ := h
    exact ⟨a, xs, e, n, x _ _ q, t.ex x⟩
  | r kvs => exact h
  | m ad kvs =>
    obtain ⟨a, e, n, q, z⟩ := h
    exact ⟨a, e, n, x _ _ q, z⟩
theorem Sg.mono (S : Sg K H0 F H σ δ) (x : Ex H H') : Sg K H0 F H' σ δ :=
  ⟨S.base, S.ex.trans x, S.len, fun i e h => by
    obtain ⟨v, h1, h2⟩ := S.has i e h
    exact ⟨v, h1, h2.ex x⟩, S.sep⟩
theorem Sg.lt {i : Nat} {e : Ent} (S : Sg K H0 F H σ δ) (h : δ[i]? = some (some e)) : i < σ.length := by
  obtain ⟨v, h1, _⟩ := S.has i e h
  exact (List.getElem?_eq_some_iff.mp h1).1
theorem get_set {α : Type} {l : List α} {i j : Nat} {x y : α} (h : (l.set i x)[j]? = some y) : (i = j ∧ y = x ∧ i < l.length) ∨ (i ≠ j ∧ l[j]? = some y) := by
  by_cases e : i = j
  · subst e
    by_cases hl : i < l.length
    · rw [List.getElem?_set_self hl] at h
      exact .inl ⟨rfl, (Option.some.inj h).symm, hl⟩
    · rw [List.set_eq_of_length_le (by omega), List.getElem?_eq_none (by omega)] at h
      cases h
  · rw [List.getElem?_set_ne e] at h
    exact .inr ⟨e, h⟩
/-- a slot is given data -/
theorem Sg.setD {i : Nat} {v : V} {e : Ent} (S : Sg K H0 F H σ δ) (h : Holds K H0 F H e v) (hn : e.own = false) : Sg K H0 F H (σ.set i (some v)) (δ.set i (some e)) := by
  refine ⟨S.base, S.ex, by rw [List.length_set, List.length_set, S.len], fun j e' hj => ?_, fun j k e1 e2 hjk h1 h2 o1 o2 => ?_⟩
  · rcases get_set hj with ⟨rfl, q, hl⟩ | ⟨hne, hj⟩
    · cases q
      exact ⟨v, List.getElem?_set_self (by rw [S.len]; exact hl), h⟩
    · obtain ⟨w, h1, h2⟩ := S.has j e' hj
      exact ⟨w, by rw [List.getElem?_set_ne hne]; exact h1, h2⟩
  · rcases get_set h1 with ⟨_, q, _⟩ | ⟨n1, h1⟩
    · cases q
      rw [hn] at o1
      cases o1
    · rcases get_set h2 with ⟨_, q, _⟩ | ⟨n2, h2⟩
      · cases q
        rw [hn] at o2
        cases o2
      · rw [List.getElem?_set_ne n1, List.getElem?_set_ne n2]
        exact S.sep j k e1 e2 hjk h1 h2 o1 o2
theorem own_at {e : Ent} {v : V} (h : Holds K H0 F H e v) (o : e.own = true) : ∃ a u, v = .ref a ∧ F a = none ∧ H a = some u ∧ ((∃ xs, u = .lst xs) ∨ ∃ kvs, u = .dT kvs) := by
  cases e with
  | d y => cases o
  | l ds => cases o
  | r kvs => cases o
  | o ds =>
    obtain ⟨a, xs, e, n, q, t⟩ := h
    exact ⟨a, _, e, n, q, .inl ⟨_, rfl⟩⟩
  | m ad kvs =>
    obtain ⟨a, e, n, q, z⟩ := h
    exact ⟨a, _, e, n, q, .inr ⟨_, rfl⟩⟩
/-- a slot is given a new object of one's own -/
theorem Sg.setN {H1 : Hp} {i : Nat} {p : Addr} {e : Ent} (S : Sg K H0 F H1 σ δ) (x : Ex H1 H) (hp : H1 p = none) (h : Holds K H0 F H e (.ref p)) : Sg K H0 F H (σ.set i (some (.ref p))) (δ.set i (some e)) := by
  have S2 := S.mono x
  have far : ∀ (j : Nat) (e' : Ent), δ[j]? = some (some e') → e'.own = true → σ[j]? ≠ some (some (.ref p)) := fun j e' hj ho hz => by
    obtain ⟨w, h1, h2⟩ := S.has j e' hj
    obtain ⟨a, u, rfl, _, q, _⟩ := own_at h2 ho
    rw [h1] at hz
    injection hz with hz
    injection hz with hz
    injection hz with hz
    rw [hz, hp] at q
    cases q
  refine ⟨S2.base, S2.ex, by rw [List.length_set, List.length_set, S.len], fun j e' hj => ?_, fun j k e1 e2 hjk h1 h2 o1 o2 => ?_⟩
  · rcases get_set hj with ⟨rfl, q, hl⟩ | ⟨hne, hj⟩
    · cases q
      exact ⟨_, List.getElem?_set_self (by rw [S.len]; exact hl), h⟩
    · obtain ⟨w, h1, h2⟩ := S2.has j e' hj
      exact ⟨w, by rw [List.getElem?_set_ne hne]; exact h1, h2⟩
  · rcases get_set h1 with ⟨rfl, q, hl⟩ | ⟨n1, h1⟩
    · rcases get_set h2 with ⟨z, _, _⟩ | ⟨n2, h2⟩
      · exact absurd z hjk
      · rw [List.getElem?_set_self (by rw [S.len]; exact hl), List.getElem?_set_ne n2]
        exact fun z => far k e2 h2 o2 z.symm
    · rcases get_set h2 with ⟨rfl, q, hl⟩ | ⟨n2, h2⟩
      · rw [List.getElem?_set_self (by rw [S.len]; exact hl), List.getElem?_set_ne n1]
        exact far j e1 h1 o1
      · rw [List.getElem?_set_ne n1, List.getElem?_set_ne n2]
        exact S.sep j k e1 e2 hjk h1 h2 o1 o2
/-- the object of slot i has changed -/
theorem Sg.put {i : Nat} {a : Addr} {u : HO} {e0 e : Ent} (S : Sg K H0 F H σ δ) (h0 : δ[i]? = some (some e0)) (ho : e0.own = true) (hv : σ[i]? = some (some (.ref a))) (he : e.own = true) (h : Holds K H0 F (upd H a u) e (.ref a)) : Sg K H0 F (upd H a u) σ (δ.set i (some e)) := by
  obtain ⟨v, h1, h2⟩ := S.has i e0 h0
  obtain ⟨b, ob, eb, n0, qb, kind⟩ := own_at h2 ho
  rw [hv] at h1
  cases h1
  cases eb
  have tx : Tx H (upd H a u) := by
    rcases kind with ⟨xs, rfl⟩ | ⟨kvs, rfl⟩
    · exact Tx.lst qb
    · exact Tx.dT qb
  refine ⟨S.base, S.ex.mut n0, by rw [List.length_set, S.len], fun j e' hj => ?_, fun j k e1 e2 hjk h1 h2 o1 o2 => ?_⟩
  · rcases get_set hj with ⟨rfl, q, hl⟩ | ⟨hne, hj⟩
    · cases q
      exact ⟨_, hv, h⟩
    · obtain ⟨w, g1, g2⟩ := S.has j e' hj
      refine ⟨w, g1, ?_⟩
      cases e' with
      | d y => exact Td.tx tx g2
      | l ds => exact g2
      | r kvs => exact g2
      | o ds =>
        obtain ⟨c, xs, rfl, n, q, t⟩ := g2
        have hc : c ≠ a := fun z => S.sep i j e0 _ hne h0 hj ho rfl (by rw [hv, g1, z])
        exact ⟨c, xs, rfl, n, by rw [upd_ne hc]; exact q, t.tx tx⟩
      | m ad kvs =>
        obtain ⟨c, rfl, n, q, z⟩ := g2
        have hc : c ≠ a := fun z => S.sep i j e0 _ hne h0 hj ho rfl (by rw [hv, g1, z])
        exact ⟨c, rfl, n, by rw [upd_ne hc]; exact q, z⟩
  · have own1 : ∀ (j : Nat) (e' : Ent), (δ.set i (some e))[j]? = some (some e') → e'.own = true → ∃ e'', δ[j]? = some (some e'') ∧ e''.own = true := fun j e' hj ho' => by
      rcases get_set hj with ⟨rfl, _, _⟩ | ⟨_, hj⟩
      · exact ⟨e0, h0, ho⟩
      · exact ⟨e', hj, ho'⟩
    obtain ⟨f1, g1, p1⟩ := own1 j e1 h1 o1
    obtain ⟨f2, g2, p2⟩ := own1 k e2 h2 o2
    exact S.sep j k f1 f2 hjk g1 g2 p1 p2
/-- forgetting slots -/
theorem Sg.wipe (S : Sg K H0 F H σ δ) (vs : List Nat) : Sg K H0 F H (wipe σ vs) (vs.foldr (fun i d => d.set i none) δ) := by
  induction vs with
  | nil => exact S
  | cons i r ih =>
    show Sg K H0 F H ((L2.wipe σ r).set i none) ((r.foldr (fun i d => d.set i none) δ).set i none)
    refine ⟨ih.base, ih.ex, by rw [List.length_set, List.length_set, ih.len], fun j e hj => ?_, fun j k e1 e2 hjk h1 h2 o1 o2 => ?_⟩
    · rcases get_set hj with ⟨_, q, _⟩ | ⟨hne, hj⟩
      · cases q
      · obtain ⟨w, h1, h2⟩ := ih.has j e hj
        exact ⟨w, by rw [List.getElem?_set_ne hne]; exact h1, h2⟩
    · rcases get_set h1 with ⟨_, q, _⟩ | ⟨n1, h1⟩
      · cases q
      · rcases get_set h2 with ⟨_, q, _⟩ | ⟨n2, h2⟩
        · cases q
        · rw [List.getElem?_set_ne n1, List.getElem?_set_ne n2]
          exact ih.sep j k e1 e2 hjk h1 h2 o1 o2
/-- all that stands but the objects of one's own is kept -/
theorem Sg.frame (S : Sg K H0 F H σ δ) : ∃ F', Sg K H0 F' H σ δ ∧ Ex F F' ∧ Tx H F' ∧ ∀ a o, H a = some o → (∀ (i : Nat) (e : Ent), δ[i]? = some (some e) → e.own = true → σ[i]? ≠ some (some (.ref a))) → F' a = some o := by
  classical
  let P : Addr → Prop := fun a => ∃ (i : Nat) (e : Ent), δ[i]? = some (some e) ∧ e.own = true ∧ σ[i]? = some (some (.ref a))
  let F' : Hp := fun a => if P a then none else H a
  have pn : ∀ a, P a → F a = none ∧ ∃ u, H a = some u ∧ ((∃ xs, u = .lst xs) ∨ ∃ kvs, u = .dT kvs) := fun a ⟨i, e, h1, h2, h3⟩ => by
    obtain ⟨v, g1, g2⟩ := S.has i e h1
    obtain ⟨b, u, rfl, n, q, k⟩ := own_at g2 h2
    rw [h3] at g1
    cases g1
    exact ⟨n, u, q, k⟩
  have fx : Ex F F' := fun a o h => by
    show (if P a then none else H a) = some o
    rw [if_neg fun p => by rw [(pn a p).1] at h; cases h]
    exact S.ex a o h
  have xh : Ex F' H := fun a o h => by
    have h' : (if P a then none else H a) = some o := h
    by_cases p : P a
    · rw [if_pos p] at h'
      cases h'
    · rw [if_neg p] at h'
      exact h'
  have tx : Tx H F' := fun a xs r => by
    have np : ¬ P a := fun p => by
      obtain ⟨_, u, q, k⟩ := pn a p
      rcases r with r | ⟨ob, r⟩
      · rw [q] at r
        rcases k with ⟨_, rfl⟩ | ⟨_, rfl⟩ <;> cases r
      · rw [q] at r
        rcases k with ⟨_, rfl⟩ | ⟨_, rfl⟩ <;> cases r
    have e : F' a = H a := if_neg np
    rcases r with r | ⟨ob, r⟩
    · exact .inl (e.trans r)
    · exact .inr ⟨ob, e.trans r⟩
  refine ⟨F', ⟨S.base.trans fx, xh, S.len, fun i e h => ?_, S.sep⟩, fx, tx, fun a o h n => ?_⟩
  · obtain ⟨v, h1, h2⟩ := S.has i e h
    refine ⟨v, h1, ?_⟩
    cases e with
    | d y => exact h2
    | l ds => exact h2
    | r kvs => exact h2
    | o ds =>
      obtain ⟨a, xs, rfl, _, q⟩ := h2
      exact ⟨a, xs, rfl, if_pos ⟨i, _, h, rfl, h1⟩, q⟩
    | m ad kvs =>
      obtain ⟨a, rfl, _, q⟩ := h2
      exact ⟨a, rfl, if_pos ⟨i, _, h, rfl, h1⟩, q⟩
  · show (if P a then none else H a) = some o
    rw [if_neg fun ⟨i, e, h1, h2, h3⟩ => n i e h1 h2 h3]
    exact h
theorem Holds.shrink {F' : Hp} {e : Ent} {v : V} (x : Ex F F') (h : Holds K H0 F' H e v) : Holds K H0 F H e v := by
  cases e with
  | d y => exact h
  | l ds => exact h
  | r kvs => exact h
  | o ds =>
    obtain ⟨a, xs, e, n, q⟩ := h
    exact ⟨a, xs, e, fresh_back x n, q⟩
  | m ad kvs =>
    obtain ⟨a, e, n, q⟩ := h
    exact ⟨a, e, fresh_back x n, q⟩
theorem Sg.shrink {F' : Hp} (b : Ex H0 F) (x : Ex F F') (S : Sg K H0 F' H σ δ) : Sg K H0 F H σ δ :=
  ⟨b, x.trans S.ex, S.len, fun i e h => by
    obtain ⟨v, h1, h2⟩ := S.has i e h
    exact ⟨v, h1, h2.shrink x⟩, S.sep⟩
theorem Sg.all (S : Sg K H0 F H σ δ) : Ex H0 H := S.base.trans S.ex
end
end Fkh
namespace Fkh
open PySem PySem.Spec PyProof.Rows L2 Evl
/-! ### what an expression gives -/
section
variable (K : Fg)
def EvD (te : TE) (δ : Env) (x : PyData) : Prop := ∀ H0 F H σ, Sg K H0 F H σ δ → ∀ Q : VK, (∀ v H2, Ex H H2 → Td K H2 v x → Q v H2) → te σ H Q
/-- a new list -/
def EvN (te : TE) (δ : Env) (ds : List PyData) : Prop := ∀ H0 F H σ, Sg K H0 F H σ δ → ∀ Q : VK, (∀ p xs H2, H p = none → Ex H H2 → H2 p = some (.lst xs) → Tds K H2 xs ds → Q (.ref p) H2) → te σ H Q
/-- a list to be read -/
def EvR (te : TE) (δ : Env) (ds : List PyData) : Prop := ∀ H0 F H σ, Sg K H0 F H σ δ → ∀ Q : VK, (∀ p xs H2, Ex H H2 → SqL K H2 p xs → Tds K H2 xs ds → Q (.ref p) H2) → te σ H Q
def EvB (tt : TT) (δ : Env) (b : Bool) : Prop := ∀ H0 F H σ, Sg K H0 F H σ δ → ∀ Q : Bool → Hp → Prop, (∀ H2, Ex H H2 → Q b H2) → tt σ H Q
def EvP (to : TO) (δ : Env) (o : Option Int) : Prop := ∀ H0 F H σ, Sg K H0 F H σ δ → ∀ Q : Option Int → Hp → Prop, (∀ H2, Ex H H2 → Q o H2) → to σ H Q
/-- arguments: data alone -/
def EvAd (ta : TA) (δ : Env) (ds : List PyData) : Prop := ∀ H0 F H σ, Sg K H0 F H σ δ → ∀ Q : List V → Hp → Prop, (∀ vs H2, Ex H H2 → Tds K H2 vs ds → Q vs H2) → ta σ H Q
/-- .. data, lists, dicts to be read -/
inductive Har (H : Hp) : List V → List Ent → Prop
  | nil : Har H [] []
  | cons {v : V} {vs : List V} {e : Ent} {es : List Ent} : Holds K H H H e v → e.own = false → Har H vs es → Har H (v :: vs) (e :: es)
def EvA (ta : TA) (δ : Env) (es : List Ent) : Prop := ∀ H0 F H σ, Sg K H0 F H σ δ → ∀ Q : List V → Hp → Prop, (∀ vs H2, Ex H H2 → Har K H2 vs es → Q vs H2) → ta σ H Q
/-- an operation on data -/
def Rv (r : R2) (x y z : PyData) : Prop := ∀ H u v, Td K H u x → Td K H v y → ∀ Q : VK, (∀ w H2, Ex H H2 → Td K H2 w z → Q w H2) → r u v H Q
end
section
variable {K : Fg} {δ : Env} {ta tb te : TE} {x y z : PyData} {ds es : List PyData}
theorem ed_var {i : Nat} (h : δ[i]? = some (some (.d x))) : EvD K (tVar i) δ x := fun H0 F H σ S Q q => by
  obtain ⟨v, h1, h2⟩ := S.has i _ h
  exact ⟨v, h1, q v H (Ex.refl H) h2⟩
theorem ed_int {i : Int} : EvD K (tC (.int i)) δ (.int i) := fun _ _ H _ _ _ q => q _ H (Ex.refl H) (.int i)
theorem ed_str {s : Str} : EvD K (tC (.str s)) δ (.str s) := fun _ _ H _ _ _ q => q _ H (Ex.refl H) (.str s)
theorem ed_non : EvD K (tC .non) δ .none := fun _ _ H _ _ _ q => q _ H (Ex.refl H) .non
theorem ed_bl {b : Bool} : EvD K (tC (.bl b)) δ (.bool b) := fun _ _ H _ _ _ q => q _ H (Ex.refl H) (.bl b)
theorem ed_glob {v : V} (h : ∀ H, Td K H v x) : EvD K (tC v) δ x := fun _ _ H _ _ _ q => q _ H (Ex.refl H) (h H)
theorem ed_op {r : R2} (ha : EvD K ta δ x) (hb : EvD K tb δ y) (hr : Rv K r x y z) : EvD K (tOp r ta tb) δ z := fun H0 F H σ S Q q =>
  ha H0 F H σ S _ fun u H2 e2 t2 => hb H0 F H2 σ (S.mono e2) _ fun v H3 e3 t3 => hr H3 u v (t2.ex e3) t3 Q fun w H4 e4 t4 => q w H4 ((e2.trans e3).trans e4) t4
theorem ed_un {f : Int → Int} {i : Int} (ha : EvD K ta δ (.int i)) : EvD K (tUn (rU fun i => .int (f i)) ta) δ (.int (f i)) := fun H0 F H σ S Q q =>
  ha H0 F H σ S _ fun u H2 e2 t2 => ⟨i, t2.int_inv, q _ H2 e2 (.int _)⟩
theorem ed_is (h : EvD K te δ x) (e : x = y) : EvD K te δ y := e ▸ h
/-! operations -/
theorem rv_I0 {f : Int → Int → Int} {i j : Int} : Rv K (rI0 fun i j => .int (f i j)) (.int i) (.int j) (.int (f i j)) := fun H u v t1 t2 Q q => ⟨i, j, t1.int_inv, t2.int_inv, q _ H (Ex.refl H) (.int _)⟩
theorem rv_B0 {f : Int → Int → Bool} {i j : Int} : Rv K (rI0 fun i j => .bl (f i j)) (.int i) (.int j) (.bool (f i j)) := fun H u v t1 t2 Q q => ⟨i, j, t1.int_inv, t2.int_inv, q _ H (Ex.refl H) (.bl _)⟩
theorem rv_I {C : Int → Int → Prop} {f : Int → Int → Int} {i j : Int} (hc : C i j) : Rv K (rI C fun i j => .int (f i j)) (.int i) (.int j) (.int (f i j)) := fun H u v t1 t2 Q q => ⟨i, j, t1.int_inv, t2.int_inv, hc, q _ H (Ex.refl H) (.int _)⟩
theorem rv_eqI {i j : Int} : Rv K rEq (.int i) (.int j) (.bool (decide (i = j))) := fun H u v t1 t2 Q q => by
  rw [t1.int_inv, t2.int_inv]
  refine ⟨rfl, q _ H (Ex.refl H) ?_⟩
  rw [dec_int, ← Bool.beq_eq_decide_eq]
  exact .bl _
theorem rv_neI {i j : Int} : Rv K rNe (.int i) (.int j) (.bool (!decide (i = j))) := fun H u v t1 t2 Q q => by
  rw [t1.int_inv, t2.int_inv]
  refine ⟨rfl, q _ H (Ex.refl H) ?_⟩
  rw [dec_int, ← Bool.beq_eq_decide_eq]
  exact .bl _
theorem rv_eqS {i j : Str} : Rv K rEq (.str i) (.str j) (.bool (decide (i = j))) := fun H u v t1 t2 Q q => by
  rw [t1.str_inv, t2.str_inv]
  refine ⟨rfl, q _ H (Ex.refl H) ?_⟩
  have e : decide (V.str i = V.str j) = decide (i = j) := by
    by_cases h : i = j
    · subst h; simp
    · rw [decide_eq_false h, decide_eq_false (fun z => h (V.str.inj z))]
  rw [e]
  exact .bl _
theorem rv_neS {i j : Str} : Rv K rNe (.str i) (.str j) (.bool (!decide (i = j))) := fun H u v t1 t2 Q q => by
  rw [t1.str_inv, t2.str_inv]
  refine ⟨rfl, q _ H (Ex.refl H) ?_⟩
  have e : decide (V.str i = V.str j) = decide (i = j) := by
    by_cases h : i = j
    · subst h; simp
    · rw [decide_eq_false h, decide_eq_false (fun z => h (V.str.inj z))]
  rw [e]
  exact .bl _
theorem rv_eqB {i j : Bool} : Rv K rEq (.bool i) (.bool j) (.bool (decide (i = j))) := fun H u v t1 t2 Q q => by
  rw [t1.bl_inv, t2.bl_inv]
  refine ⟨rfl, q _ H (Ex.refl H) ?_⟩
  have e : decide (V.bl i = V.bl j) = decide (i = j) := by cases i <;> cases j <;> rfl
  rw [e]
  exact .bl _
theorem rv_eqD (h1 : SeqAt.shaped x = true) (h2 : SeqAt.shaped y = true) : Rv K (rEqD K) x y (.bool (PyData.eqv x y)) := fun H u v t1 t2 Q q => ⟨x, y, t1.dp, t2.dp, h1, h2, q _ H (Ex.refl H) (.bl _)⟩
theorem rv_neD (h1 : SeqAt.shaped x = true) (h2 : SeqAt.shaped y = true) : Rv K (rNeD K) x y (.bool (!PyData.eqv x y)) := fun H u v t1 t2 Q q => ⟨x, y, t1.dp, t2.dp, h1, h2, q _ H (Ex.refl H) (.bl _)⟩
def rIsN : R2 := fun x y H Q => y = .non ∧ Q (.bl (decide (x = .non))) H
def isN : PyData → Bool
  | .none => true
  | _ => false
theorem rv_isN : Rv K rIsN x .none (.bool (isN x)) := fun H u v t1 t2 Q q => by
  refine ⟨t2.non_inv, q _ H (Ex.refl H) ?_⟩
  have e : decide (u = V.non) = isN x := by
    cases t1 <;> rfl
  rw [e]
  exact .bl _
theorem rv_ixT {i : Int} (h : atI ds i = some z) : Rv K (rIxT K) (.tuple ds) (.int i) z := fun H u v t1 t2 Q q => by
  obtain ⟨a, xs, rfl, h1, h2⟩ := t1.tup_inv
  obtain ⟨w, h3, h4⟩ := h2.atI h
  exact ⟨a, xs, i, w, rfl, t2.int_inv, h1, h3, q w H (Ex.refl H) h4⟩
theorem ed_ixT {i : Int} (ha : EvD K ta δ (.tuple ds)) (h : atI ds i = some z) : EvD K (tOp (rIxT K) ta (tC (.int i))) δ z := ed_op ha ed_int (rv_ixT h)
/-- flat data as a value -/
def flV : PyData → V
  | .bool b => .bl b
  | .int i => .int i
  | .str x => .str x
  | _ => .non
def flat : PyData → Bool
  | .bool _ => true
  | .int _ => true
  | .str _ => true
  | .none => true
  | _ => false
theorem Td.fl {H : Hp} {v : V} (h : Td K H v x) (f : flat x = true) : v = flV x ∧ flatV v = true := by
  cases h <;> first | exact ⟨rfl, rfl⟩ | cases f
theorem Tds.fl {H : Hp} : ∀ {vs : List V} {ds : List PyData}, Tds K H vs ds → ds.all flat = true → vs = ds.map flV ∧ vs.all flatV = true
  | _, _, .nil, _ => ⟨rfl, rfl⟩
  | _, _, .cons h t, f => by
    rw [List.all_cons, Bool.and_eq_true] at f
    obtain ⟨e1, f1⟩ := h.fl f.1
    obtain ⟨e2, f2⟩ := t.fl f.2
    exact ⟨by rw [List.map_cons, e1, ← e2], by rw [List.all_cons, f1, f2] <;> rfl⟩
def inD (x : PyData) (ds : List PyData) : Bool := inV (flV x) (ds.map flV)
theorem rv_inT {neg : Bool} (hx : flat x = true) (hd : ds.all flat = true) : Rv K (rIn K neg) x (.tuple ds) (.bool (if neg then !inD x ds else inD x ds)) := fun H u v t1 t2 Q q => by
  obtain ⟨a, xs, rfl, h1, h2⟩ := t2.tup_inv
  obtain ⟨e1, f1⟩ := t1.fl hx
  obtain ⟨e2, f2⟩ := h2.fl hd
  refine ⟨a, xs, rfl, .inr h1, f1, f2, q _ H (Ex.refl H) ?_⟩
  rw [e1, e2]
  exact .bl _
theorem ed_inL {neg : Bool} (ha : EvD K ta δ x) (hb : EvR K tb δ ds) (hx : flat x = true) (hd : ds.all flat = true) : EvD K (tOp (rIn K neg) ta tb) δ (.bool (if neg then !inD x ds else inD x ds)) := fun H0 F H σ S Q q =>
  ha H0 F H σ S _ fun u H2 e2 t2 => hb H0 F H2 σ (S.mono e2) _ fun p xs H3 e3 h3 t3 => by
    obtain ⟨e1, f1⟩ := t2.fl hx
    obtain ⟨e4, f2⟩ := t3.fl hd
    refine ⟨p, xs, rfl, .inl h3, f1, f2, q _ H3 (e2.trans e3) ?_⟩
    rw [e1, e4]
    exact .bl _
/-- an item of a list -/
theorem ed_ixL {i : Int} (ha : EvR K ta δ ds) (hb : EvD K tb δ (.int i)) (h : atI ds i = some z) : EvD K (tOp (rIxL K) ta tb) δ z := fun H0 F H σ S Q q =>
  ha H0 F H σ S _ fun p xs H2 e2 h2 t2 => hb H0 F H2 σ (S.mono e2) _ fun v H3 e3 t3 => by
    obtain ⟨w, h3, h4⟩ := (t2.ex e3).atI h
    exact ⟨p, xs, i, w, rfl, t3.int_inv, ex_l e3 h2, h3, q w H3 (e2.trans e3) h4⟩
/-! lists -/
theorem er_n (h : EvN K te δ ds) : EvR K te δ ds := fun H0 F H σ S Q q => h H0 F H σ S Q fun p xs H2 _ e2 h2 t2 => q p xs H2 e2 (SqL.of h2) t2
theorem er_l {i : Nat} (h : δ[i]? = some (some (.l ds))) : EvR K (tVar i) δ ds := fun H0 F H σ S Q q => by
  obtain ⟨v, h1, h2⟩ := S.has i _ h
  obtain ⟨a, xs, rfl, h3, h4⟩ := h2
  exact ⟨_, h1, q a xs H (Ex.refl H) (ex_l S.all h3) (h4.ex S.all)⟩
theorem er_o {i : Nat} (h : δ[i]? = some (some (.o ds))) : EvR K (tVar i) δ ds := fun H0 F H σ S Q q => by
  obtain ⟨v, h1, h2⟩ := S.has i _ h
  obtain ⟨a, xs, rfl, h3, h4, h5⟩ := h2
  exact ⟨_, h1, q a xs H (Ex.refl H) (SqL.of h4) h5⟩
theorem sz {n : Nat} (h : n ≤ 1000000) : n ≤ sizeLine := Nat.le_trans h (by decide)
theorem szl {n : Nat} (h : n < 1000000) : n < sizeLine := Nat.lt_of_lt_of_le h (by decide)
theorem en_lst {ta : TA} (h : EvAd K ta δ ds) (hl : ds.length ≤ 1000000) : EvN K (tLst ta) δ ds := fun H0 F H σ S Q q =>
  h H0 F H σ S _ fun vs H2 e2 t2 => ⟨by rw [t2.len]; exact sz hl, fun p hp => q p vs _ (fresh_back e2 hp) (e2.trans (Ex.new hp)) upd_same (t2.ex (Ex.new hp))⟩
theorem en_cat (ha : EvN K ta δ ds) (hb : EvN K tb δ es) (hl : ds.length + es.length ≤ 1000000) : EvN K (tOp rCat ta tb) δ (ds ++ es) := fun H0 F H σ S Q q =>
  ha H0 F H σ S _ fun p xs H2 hp e2 h2 t2 => hb H0 F H2 σ (S.mono e2) _ fun p' ys H3 hp' e3 h3 t3 =>
    ⟨p, p', xs, ys, rfl, rfl, e3 _ _ h2, h3, by rw [t2.len, t3.len]; exact sz hl, fun r hr =>
      q r (xs ++ ys) _ (fresh_back (e2.trans e3) hr) ((e2.trans e3).trans (Ex.new hr)) upd_same (Tds.app ((t2.ex e3).ex (Ex.new hr)) (t3.ex (Ex.new hr)))⟩
/-- a list of one's own + a new one -/
theorem en_catO {i : Nat} (ha : δ[i]? = some (some (.o ds))) (hb : EvN K tb δ es) (hl : ds.length + es.length ≤ 1000000) : EvN K (tOp rCat (tVar i) tb) δ (ds ++ es) := fun H0 F H σ S Q q => by
  obtain ⟨v, h1, h2⟩ := S.has i _ ha
  obtain ⟨a, xs, rfl, h3, h4, h5⟩ := h2
  exact ⟨_, h1, hb H0 F H σ S _ fun p' ys H3 hp' e3 hq t3 =>
    ⟨a, p', xs, ys, rfl, rfl, e3 _ _ h4, hq, by rw [h5.len, t3.len]; exact sz hl, fun r hr =>
      q r (xs ++ ys) _ (fresh_back e3 hr) (e3.trans (Ex.new hr)) upd_same (Tds.app ((h5.ex e3).ex (Ex.new hr)) (t3.ex (Ex.new hr)))⟩⟩
def rListOf (K : Fg) : List V → Hp → VK → Prop := fun xs H Q => ∃ p ys, xs = [.ref p] ∧ (SqL K H p ys ∨ SqT K H p ys) ∧ ∀ l, H l = none → Q (.ref l) (upd H l (.lst ys))
theorem en_list (h : EvR K te δ ds) : EvN K (tCB (rListOf K) (tCons te tNil)) δ ds := fun H0 F H σ S Q q =>
  h H0 F H σ S _ fun p xs H2 e2 h2 t2 => ⟨p, xs, rfl, .inl h2, fun l hl => q l xs _ (fresh_back e2 hl) (e2.trans (Ex.new hl)) upd_same (t2.ex (Ex.new hl))⟩
theorem en_rev (h : EvR K te δ ds) : EvN K (tRevL K te) δ ds.reverse := fun H0 F H σ S Q q =>
  h H0 F H σ S _ fun p xs H2 e2 h2 t2 => ⟨p, xs, rfl, h2, fun l hl => q l xs.reverse _ (fresh_back e2 hl) (e2.trans (Ex.new hl)) upd_same ((t2.rev).ex (Ex.new hl))⟩
/-! tuples, len -/
theorem ea_nil : EvAd K tNil δ [] := fun _ _ H _ _ _ q => q [] H (Ex.refl H) .nil
theorem ea_cons {tr : TA} (h : EvD K te δ x) (hr : EvAd K tr δ ds) : EvAd K (tCons te tr) δ (x :: ds) := fun H0 F H σ S Q q =>
  h H0 F H σ S _ fun v H2 e2 t2 => hr H0 F H2 σ (S.mono e2) _ fun vs H3 e3 t3 => q _ H3 (e2.trans e3) (.cons (t2.ex e3) t3)
theorem ed_tup {ta : TA} (h : EvAd K ta δ ds) (hl : ds.length ≤ 1000000 := by decide) : EvD K (tTup ta) δ (.tuple ds) := fun H0 F H σ S Q q =>
  h H0 F H σ S _ fun vs H2 e2 t2 => ⟨by rw [t2.len]; exact sz hl, fun p hp => q _ _ (e2.trans (Ex.new hp)) (.tup (SqT.of upd_same) (t2.ex (Ex.new hp)))⟩
def rLenS (K : Fg) : List V → Hp → VK → Prop := fun xs H Q => ∃ p ys, xs = [.ref p] ∧ (SqL K H p ys ∨ SqT K H p ys) ∧ Q (.int ys.length) H
theorem ed_lenT (h : EvD K te δ (.tuple ds)) : EvD K (tCB (rLenS K) (tCons te tNil)) δ (.int ds.length) := fun H0 F H σ S Q q =>
  h H0 F H σ S _ fun v H2 e2 t2 => by
    obtain ⟨a, xs, rfl, h1, h2⟩ := t2.tup_inv
    refine ⟨a, xs, rfl, .inr h1, q _ H2 e2 ?_⟩
    rw [h2.len]
    exact .int _
theorem ed_lenL (h : EvR K te δ ds) : EvD K (tCB (rLenS K) (tCons te tNil)) δ (.int ds.length) := fun H0 F H σ S Q q =>
  h H0 F H σ S _ fun p xs H2 e2 h2 t2 => ⟨p, xs, rfl, .inl h2, q _ H2 e2 (by rw [t2.len]; exact .int _)⟩
def rTupOf (K : Fg) : List V → Hp → VK → Prop := fun xs H Q => ∃ p ys, xs = [.ref p] ∧ ((SqL K H p ys ∧ ∀ l, H l = none → Q (.ref l) (upd H l (.tup ys))) ∨ (SqT K H p ys ∧ Q (.ref p) H))
/-- tuple(list) -/
theorem ed_tupOf (h : EvR K te δ ds) : EvD K (tCB (rTupOf K) (tCons te tNil)) δ (.tuple ds) := fun H0 F H σ S Q q =>
  h H0 F H σ S _ fun p xs H2 e2 h2 t2 => ⟨p, xs, rfl, .inl ⟨h2, fun l hl => q _ _ (e2.trans (Ex.new hl)) (.tup (SqT.of upd_same) (t2.ex (Ex.new hl)))⟩⟩
/-- t + u -/
theorem rv_catT (hl : ds.length + es.length ≤ 1000000) : Rv K (rCatA K) (.tuple ds) (.tuple es) (.tuple (ds ++ es)) := fun H u v t1 t2 Q q => by
  obtain ⟨a, xs, rfl, h1, h2⟩ := t1.tup_inv
  obtain ⟨b, ys, rfl, h3, h4⟩ := t2.tup_inv
  refine ⟨a, b, xs, ys, rfl, rfl, h1, h3, by rw [h2.len, h4.len]; exact sz hl, fun e => ?_, fun _ e => ?_, fun _ _ p hp => ?_⟩
  · subst e
    cases h2
    exact q _ H (Ex.refl H) (.tup h3 h4)
  · subst e
    cases h4
    rw [List.append_nil] at q
    exact q _ H (Ex.refl H) (.tup h1 h2)
  · exact q _ _ (Ex.new hp) (.tup (SqT.of upd_same) (Tds.app (h2.ex (Ex.new hp)) (h4.ex (Ex.new hp))))
/-- t[lo:hi] -/
def cutD (ds : List PyData) (lo hi : Option Int) : List PyData := (ds.drop (HT.sIx ds.length 0 lo)).take (HT.sIx ds.length ds.length hi - HT.sIx ds.length 0 lo)
theorem ep_none : EvP K tNoPart δ none := fun _ _ H _ _ _ q => q H (Ex.refl H)
theorem ep_some {i : Int} (h : EvD K te δ (.int i)) : EvP K (tPart te) δ (some i) := fun H0 F H σ S Q q => h H0 F H σ S _ fun v H2 e2 t2 => ⟨i, t2.int_inv, q H2 e2⟩
theorem ed_slT {tl th : TO} {lo hi : Option Int} (h : EvD K te δ (.tuple ds)) (h1 : EvP K tl δ lo) (h2 : EvP K th δ hi) : EvD K (tSl (rSlA K) te tl th) δ (.tuple (cutD ds lo hi)) := fun H0 F H σ S Q q =>
  h H0 F H σ S _ fun v H2 e2 t2 => h1 H0 F H2 σ (S.mono e2) _ fun H3 e3 => h2 H0 F H3 σ (S.mono (e2.trans e3)) _ fun H4 e4 => by
    obtain ⟨a, xs, rfl, h5, h6⟩ := (t2.ex (e3.trans e4)).tup_inv
    have cu : Tds K H4 (cutV xs lo hi) (cutD ds lo hi) := by
      unfold cutV cutD
      rw [h6.len]
      exact (h6.drop _).take _
    refine ⟨a, xs, rfl, h5, fun hw => ?_, fun hw p hp => ?_⟩
    · refine q _ H4 ((e2.trans e3).trans e4) (.tup h5 ?_)
      have e : cutV xs lo hi = xs := by
        unfold cutV
        rw [hw.1, hw.2, List.drop_zero, Nat.sub_zero, List.take_length]
      rw [← e]
      exact cu
    · exact q _ _ (((e2.trans e3).trans e4).trans (Ex.new hp)) (.tup (SqT.of upd_same) (cu.ex (Ex.new hp)))
/-! tests -/
variable {tt tu : TT} {a b : Bool}
theorem eb_test (h : EvD K te δ (.bool b)) : EvB K (tTest te) δ b := fun H0 F H σ S Q q => h H0 F H σ S _ fun v H2 e2 t2 => ⟨b, t2.bl_inv, q H2 e2⟩
theorem eb_B (h : EvD K te δ (.bool b)) : EvB K (tB te) δ b := fun H0 F H σ S Q q => h H0 F H σ S _ fun v H2 e2 t2 => ⟨b, t2.bl_inv, q H2 e2⟩
theorem eb_and (h1 : EvB K tt δ a) (h2 : a = true → EvB K tu δ b) : EvB K (tAnd tt tu) δ (a && b) := fun H0 F H σ S Q q => h1 H0 F H σ S _ fun H2 e2 => by
  cases a with
  | true =>
    show tu σ H2 Q
    exact h2 rfl H0 F H2 σ (S.mono e2) Q fun H3 e3 => q H3 (e2.trans e3)
  | false =>
    show Q false H2
    exact q H2 e2
theorem eb_or (h1 : EvB K tt δ a) (h2 : a = false → EvB K tu δ b) : EvB K (tOr tt tu) δ (a || b) := fun H0 F H σ S Q q => h1 H0 F H σ S _ fun H2 e2 => by
  cases a with
  | true =>
    show Q true H2
    exact q H2 e2
  | false =>
    show tu σ H2 Q
    exact h2 rfl H0 F H2 σ (S.mono e2) Q fun H3 e3 => q H3 (e2.trans e3)
theorem eb_not (h1 : EvB K tt δ a) : EvB K (tNot tt) δ (!a) := fun H0 F H σ S Q q => h1 H0 F H σ S _ fun H2 e2 => q H2 e2
theorem eb_is (h : EvB K tt δ a) (e : a = b) : EvB K tt δ b := e ▸ h
/-- .. as values -/
theorem ed_andV (h1 : EvD K ta δ (.bool a)) (h2 : a = true → EvD K tb δ (.bool b)) : EvD K (tAndV ta tb) δ (.bool (a && b)) := fun H0 F H σ S Q q => h1 H0 F H σ S _ fun v H2 e2 t2 => ⟨a, t2.bl_inv, by
  cases a with
  | true =>
    show tb σ H2 Q
    exact h2 rfl H0 F H2 σ (S.mono e2) Q fun w H3 e3 t3 => q w H3 (e2.trans e3) t3
  | false =>
    show Q (.bl false) H2
    exact q _ H2 e2 (.bl _)⟩
theorem ed_orV (h1 : EvD K ta δ (.bool a)) (h2 : a = false → EvD K tb δ (.bool b)) : EvD K (tOrV ta tb) δ (.bool (a || b)) := fun H0 F H σ S Q q => h1 H0 F H σ S _ fun v H2 e2 t2 => ⟨a, t2.bl_inv, by
  cases a with
  | true =>
    show Q (.bl true) H2
    exact q _ H2 e2 (.bl _)
  | false =>
    show tb σ H2 Q
    exact h2 rfl H0 F H2 σ (S.mono e2) Q fun w H3 e3 t3 => q w H3 (e2.trans e3) t3⟩
theorem ed_notV (h1 : EvD K ta δ (.bool a)) : EvD K (tNotV ta) δ (.bool (!a)) := fun H0 F H σ S Q q => h1 H0 F H σ S _ fun v H2 e2 t2 => ⟨a, t2.bl_inv, q _ H2 e2 (.bl _)⟩
/-! calls: a def's promise -/
theorem har_nil : EvA K tNil δ [] := fun _ _ H _ _ _ q => q [] H (Ex.refl H) .nil
theorem Har.ex {H H' : Hp} (e : Ex H H') : ∀ {vs : List V} {es : List Ent}, Har K H vs es → Har K H' vs es
  | _, _, .nil => .nil
  | _, _, .cons h o t => .cons (by
      rename_i v _ en _
      cases en with
      | d y => exact Td.ex e h
      | l ds =>
        obtain ⟨a, xs, q, h1, h2⟩ := h
        exact ⟨a, xs, q, ex_l e h1, h2.ex e⟩
      | o ds => cases o
      | r kvs =>
        obtain ⟨a, q, h1⟩ := h
        exact ⟨a, q, e _ _ h1⟩
      | m ad kvs => cases o) o (Har.ex e t)
theorem har_d {tr : TA} {es : List Ent} (h : EvD K te δ x) (hr : EvA K tr δ es) : EvA K (tCons te tr) δ (.d x :: es) := fun H0 F H σ S Q q =>
  h H0 F H σ S _ fun v H2 e2 t2 => hr H0 F H2 σ (S.mono e2) _ fun vs H3 e3 t3 => q _ H3 (e2.trans e3) (.cons (e := .d x) (t2.ex e3) rfl t3)
theorem har_l {tr : TA} {es : List Ent} (h : EvR K te δ ds) (hr : EvA K tr δ es) : EvA K (tCons te tr) δ (.l ds :: es) := fun H0 F H σ S Q q =>
  h H0 F H σ S _ fun p xs H2 e2 h2 t2 => hr H0 F H2 σ (S.mono e2) _ fun vs H3 e3 t3 => q _ H3 (e2.trans e3) (.cons (e := .l ds) ⟨p, xs, rfl, ex_l e3 h2, t2.ex e3⟩ rfl t3)
theorem har_m {tr : TA} {es : List Ent} {i : Nat} {ad : Option Addr} {kvs : Kvs} (h : δ[i]? = some (some (.m ad kvs))) (hr : EvA K tr δ es) : EvA K (tCons (tVar i) tr) δ (.r kvs :: es) := fun H0 F H σ S Q q => by
  obtain ⟨v, h1, h2⟩ := S.has i _ h
  obtain ⟨a, rfl, h3, h4, _⟩ := h2
  exact ⟨_, h1, hr H0 F H σ S _ fun vs H3 e3 t3 => q _ H3 e3 (.cons (e := .r kvs) ⟨a, rfl, e3 _ _ h4⟩ rfl t3)⟩
/-- F: from what is handed over to what comes back: data, or a new list -/
def spF (K : Fg) (F : List Ent → Ent → Prop) : Sp := fun vs H Q _ => ∃ es r, Har K H vs es ∧ F es r ∧ ∀ v H', Ex H H' → Holds K H H H' r v → Q v H'
theorem ed_call {F : List Ent → Ent → Prop} {E : XK} {ta : TA} {es : List Ent} (h : EvA K ta δ es) (hF : F es (.d x)) : EvD K (tCall (spF K F) [] E ta) δ x := fun H0 F H σ S Q q =>
  h H0 F H σ S _ fun vs H2 e2 t2 => ⟨es, .d x, by rw [List.append_nil]; exact t2, hF, fun v H3 e3 t3 => q v H3 (e2.trans e3) t3⟩
theorem en_call {F : List Ent → Ent → Prop} {E : XK} {ta : TA} {es : List Ent} (h : EvA K ta δ es) (hF : F es (.o ds)) : EvN K (tCall (spF K F) [] E ta) δ ds := fun H0 F H σ S Q q =>
  h H0 F H σ S _ fun vs H2 e2 t2 => ⟨es, .o ds, by rw [List.append_nil]; exact t2, hF, fun v H3 e3 t3 => by
    obtain ⟨a, xs, rfl, h1, h2, h3⟩ := t3
    exact q a xs H3 (fresh_back e2 h1) (e2.trans e3) h2 h3⟩
end
end Fkh
namespace Fkh
open PySem PySem.Spec PyProof.Rows L2 Evl
/-! ### what a statement does -/
structure Post where
  nx : Env → Prop
  rt : Ent → Prop
  bk : Env → Prop
  ct : Env → Prop
structure Fits (K : Fg) (H0 F : Hp) (D : Ends) (P : Post) : Prop where
  nx : ∀ δ σ H, P.nx δ → Sg K H0 F H σ δ → D.nx σ H
  rt : ∀ r v H, P.rt r → Ex F H → Holds K H0 F H r v → D.rt v H
  bk : ∀ δ σ H, P.bk δ → Sg K H0 F H σ δ → D.bk σ H
  ct : ∀ δ σ H, P.ct δ → Sg K H0 F H σ δ → D.ct σ H
def Run (K : Fg) (t : TS) (δ : Env) (P : Post) : Prop := ∀ H0 F H σ D, Sg K H0 F H σ δ → Fits K H0 F D P → t D σ H
section
variable {K : Fg} {δ : Env} {P : Post} {t u : TS} {ta tb te : TE} {tt : TT} {x y z : PyData} {ds es : List PyData} {b : Bool}
theorem run_seq (h : Run K t δ { P with nx := fun d => Run K u d P }) : Run K (tSeq t u) δ P := fun H0 F H σ D S G =>
  h H0 F H σ _ S ⟨fun d σ' H' hr S' => hr H0 F H' σ' D S' G, G.rt, G.bk, G.ct⟩
theorem run_next (h : P.nx δ) : Run K tNext δ P := fun H0 F H σ D S G => G.nx δ σ H h S
theorem run_break (h : P.bk δ) : Run K tBreak δ P := fun H0 F H σ D S G => G.bk δ σ H h S
theorem run_cont (h : P.ct δ) : Run K tCont δ P := fun H0 F H σ D S G => G.ct δ σ H h S
theorem run_asg {i : Nat} (h : EvD K te δ x) (k : P.nx (δ.set i (some (.d x)))) : Run K (tAsg te (gName i)) δ P := fun H0 F H σ D S G =>
  h H0 F H σ S _ fun v H2 e2 t2 => G.nx _ _ _ k ((S.mono e2).setD (e := .d x) t2 rfl)
theorem run_asgN {i : Nat} (h : EvN K te δ ds) (k : P.nx (δ.set i (some (.o ds)))) : Run K (tAsg te (gName i)) δ P := fun H0 F H σ D S G =>
  h H0 F H σ S _ fun p xs H2 hp e2 h2 t2 => G.nx _ _ _ k (S.setN (e := .o ds) e2 hp ⟨p, xs, rfl, fresh_back S.ex hp, h2, t2⟩)
/-- a name is given a list that stands -/
theorem run_asgL {i j : Nat} (h : δ[j]? = some (some (.l ds))) (k : P.nx (δ.set i (some (.l ds)))) : Run K (tAsg (tVar j) (gName i)) δ P := fun H0 F H σ D S G => by
  obtain ⟨v, h1, h2⟩ := S.has j _ h
  exact ⟨v, h1, G.nx _ _ _ k (S.setD (e := .l ds) h2 rfl)⟩
theorem run_par {i j : Nat} (h1 : EvD K ta δ x) (h2 : EvD K tb δ y) (k : P.nx ((δ.set i (some (.d x))).set j (some (.d y)))) : Run K (tPar i j (tCons ta (tCons tb tNil))) δ P := fun H0 F H σ D S G =>
  h1 H0 F H σ S _ fun v H2 e2 t2 => h2 H0 F H2 σ (S.mono e2) _ fun w H3 e3 t3 =>
    ⟨v, w, rfl, G.nx _ _ _ k ((((S.mono e2).mono e3).setD (e := .d x) (Td.ex e3 t2) rfl).setD (e := .d y) t3 rfl)⟩
/-- a tuple taken apart -/
def SetAll : List (Nat × PyData) → Env → Env
  | [], δ => δ
  | (i, x) :: r, δ => SetAll r (δ.set i (some (.d x)))
def gNames : List Nat → TGs
  | [] => gNil
  | i :: r => gCons (gName i) (gNames r)
theorem names_go {H0 F : Hp} : ∀ (is : List Nat) (xs : List V) (ds : List PyData) (δ : Env) (σ : L2.St) (H : Hp) (Q : L2.St → Hp → Prop), is.length = ds.length → Tds K H xs ds → Sg K H0 F H σ δ →
    (∀ σ', Sg K H0 F H σ' (SetAll (is.zip ds) δ) → Q σ' H) → gNames is xs σ H Q
  | [], xs, [], δ, σ, H, Q, _, t, S, q => by
    cases t
    exact ⟨rfl, q σ S⟩
  | [], _, _ :: _, _, _, _, _, e, _, _, _ => by cases e
  | _ :: _, _, [], _, _, _, _, e, _, _, _ => by cases e
  | i :: is, xs, d :: ds, δ, σ, H, Q, e, t, S, q => by
    cases t with
    | cons h t => exact ⟨_, _, rfl, names_go is _ ds _ _ H Q (Nat.succ.inj e) t (S.setD (e := .d d) h rfl) q⟩
theorem run_asgT {is : List Nat} {n : Nat} (h : EvD K te δ (.tuple ds)) (hn : ds.length = n) (hl : is.length = ds.length) (k : P.nx (SetAll (is.zip ds) δ)) : Run K (tAsg te (gTup K n (gNames is))) δ P := fun H0 F H σ D S G =>
  h H0 F H σ S _ fun v H2 e2 t2 => by
    obtain ⟨a, xs, rfl, h1, h2⟩ := t2.tup_inv
    exact ⟨a, xs, rfl, h1, by rw [h2.len, hn], names_go is xs ds δ σ H2 _ hl h2 (S.mono e2) fun σ' S' => G.nx _ _ _ k S'⟩
theorem run_if (h : EvB K tt δ b) (h1 : b = true → Run K t δ P) (h2 : b = false → Run K u δ P) : Run K (tIfS tt t u) δ P := fun H0 F H σ D S G =>
  h H0 F H σ S _ fun H2 e2 => by
    cases b with
    | true =>
      show t D σ H2
      exact h1 rfl H0 F H2 σ D (S.mono e2) G
    | false =>
      show u D σ H2
      exact h2 rfl H0 F H2 σ D (S.mono e2) G
theorem run_ret (h : EvD K te δ x) (k : P.rt (.d x)) : Run K (tRet te) δ P := fun H0 F H σ D S G =>
  h H0 F H σ S _ fun v H2 e2 t2 => G.rt (.d x) v H2 k (S.mono e2).ex t2
theorem run_retN (h : EvN K te δ ds) (k : P.rt (.o ds)) : Run K (tRet te) δ P := fun H0 F H σ D S G =>
  h H0 F H σ S _ fun p xs H2 hp e2 h2 t2 => G.rt (.o ds) _ H2 k (S.mono e2).ex ⟨p, xs, rfl, fresh_back S.ex hp, h2, t2⟩
theorem run_retO {i : Nat} (h : δ[i]? = some (some (.o ds))) (k : P.rt (.o ds)) : Run K (tRet (tVar i)) δ P := fun H0 F H σ D S G => by
  obtain ⟨v, h1, h2⟩ := S.has i _ h
  exact ⟨v, h1, G.rt (.o ds) v H k S.ex h2⟩
/-! lists of one's own -/
theorem run_app {i : Nat} (hl : δ[i]? = some (some (.o ds))) (h : EvD K te δ x) (hz : ds.length < 1000000) (k : P.nx (δ.set i (some (.o (ds ++ [x]))))) : Run K (tDrop (tBM K "list" rAppend (tVar i) (tCons te tNil))) δ P := fun H0 F H σ D S G => by
  obtain ⟨v, h1, h2⟩ := S.has i _ hl
  obtain ⟨a, xs, rfl, h3, h4, h5⟩ := h2
  refine ⟨_, h1, .inl ⟨rfl, xs, SqL.of h4⟩, h H0 F H σ S _ fun w H2 e2 t2 => ?_⟩
  refine ⟨a, xs, w, rfl, rfl, e2 _ _ h4, by rw [h5.len]; exact szl hz, G.nx _ _ _ k ?_⟩
  exact (S.mono e2).put hl rfl h1 rfl ⟨a, _, rfl, h3, upd_same, Tds.tx (Tx.lst (e2 _ _ h4)) (Tds.app (h5.ex e2) (Tds.one t2))⟩
theorem run_setL {i j : Nat} {n : Int} (hl : δ[i]? = some (some (.o ds))) (h : EvD K te δ x) (hn : EvD K tb δ (.int n)) (hj : ixN ds.length n = some j) (k : P.nx (δ.set i (some (.o (ds.set j x))))) :
    Run K (tAsg te (gSub (tVar i) tb rSetL)) δ P := fun H0 F H σ D S G => by
  obtain ⟨v, h1, h2⟩ := S.has i _ hl
  obtain ⟨a, xs, rfl, h3, h4, h5⟩ := h2
  refine h H0 F H σ S _ fun w H2 e2 t2 => ⟨_, h1, hn H0 F H2 σ (S.mono e2) _ fun u H3 e3 t3 => ?_⟩
  have e := e2.trans e3
  refine ⟨a, xs, n, j, rfl, t3.int_inv, e _ _ h4, by rw [h5.len]; exact hj, G.nx _ _ _ k ?_⟩
  exact (S.mono e).put hl rfl h1 rfl ⟨a, _, rfl, h3, upd_same, Tds.tx (Tx.lst (e _ _ h4)) (Tds.set (t2.ex e3) j (h5.ex e))⟩
/-- k, j = xs.pop() -/
theorem run_popT {i n : Nat} {is : List Nat} (hl : δ[i]? = some (some (.o (es ++ [.tuple ds])))) (hn : ds.length = n) (hi : is.length = ds.length) (k : P.nx (SetAll (is.zip ds) (δ.set i (some (.o es))))) :
    Run K (tAsg (tBM0 K "list" rPop (tVar i)) (gTup K n (gNames is))) δ P := fun H0 F H σ D S G => by
  obtain ⟨v, h1, h2⟩ := S.has i _ hl
  obtain ⟨a, xs, rfl, h3, h4, h5⟩ := h2
  have hlen := h5.len
  rw [List.length_append, List.length_singleton] at hlen
  have hg : (es ++ [PyData.tuple ds])[xs.length - 1]? = some (.tuple ds) := by
    rw [show xs.length - 1 = es.length by omega, List.getElem?_append_right (Nat.le_refl _), Nat.sub_self]
    rfl
  obtain ⟨w, hw, tw⟩ := h5.get hg
  refine ⟨_, h1, .inl ⟨rfl, xs, SqL.of h4⟩, ⟨a, xs, w, rfl, rfl, h4, hw, ?_⟩⟩
  have tx : Tx H (upd H a (.lst xs.dropLast)) := Tx.lst h4
  have S2 : Sg K H0 F (upd H a (.lst xs.dropLast)) σ (δ.set i (some (.o es))) := S.put hl rfl h1 rfl ⟨a, _, rfl, h3, upd_same, Tds.tx tx (by
    have z := h5.dropLast
    rw [List.dropLast_concat] at z
    exact z)⟩
  obtain ⟨b, ys, rfl, h6, h7⟩ := (Td.tx tx tw).tup_inv
  exact ⟨b, ys, rfl, h6, by rw [h7.len, hn], names_go is ys ds _ σ _ _ hi h7 S2 fun σ' S' => G.nx _ _ _ k S'⟩
/-! loops -/
theorem Fits.back {F' : Hp} {H0 F : Hp} {D : Ends} (b : Ex H0 F) (x : Ex F F') (G : Fits K H0 F D P) : Fits K H0 F' D P :=
  ⟨fun d σ H h S => G.nx d σ H h (S.shrink b x), fun r v H h e hv => G.rt r v H h (x.trans e) (hv.shrink x), fun d σ H h S => G.bk d σ H h (S.shrink b x), fun d σ H h S => G.ct d σ H h (S.shrink b x)⟩
/-- over range(n) -/
theorem run_forR {j n : Nat} (I : Nat → Env → Prop) {ts : TE} (h : EvD K ts δ (.int n)) (hn : n ≤ 1000000) (h0 : I 0 δ)
    (hs : ∀ i d, i < n → I i d → Run K t (d.set j (some (.d (.int i)))) { P with nx := I (i + 1), ct := I (i + 1), bk := P.nx }) (hd : ∀ d, I n d → P.nx d) : Run K (tFor (iRng1 (tCons ts tNil)) (gName j) t) δ P := fun H0 F H σ D S G =>
  h H0 F H σ S _ fun v H2 e2 t2 => by
    rw [t2.int_inv]
    have hn2 : (n : Int) ≤ 1000000 := by omega
    refine ⟨n, rfl, by omega, by omega, ?_⟩
    rw [Int.toNat_natCast]
    refine for_range (lo := 0) (n := n) (fun i σ' H' => ∃ d, I i d ∧ Sg K H0 F H' σ' d) ⟨δ, h0, S.mono e2⟩ (fun i σ' H' hi ⟨d, hI, S'⟩ => ?_) fun σ' H' ⟨d, hI, S'⟩ => G.nx d σ' H' (hd d hI) S'
    have e0 : (0 : Int) + (i : Int) = (i : Int) := Int.zero_add _
    show t _ (σ'.set j (some (.int ((0 : Int) + (i : Int))))) H'
    rw [e0]
    exact hs i d hi hI H0 F H' _ _ (S'.setD (e := .d (.int i)) (.int _) rfl) ⟨fun d' σ2 H3 h1 h2 => ⟨d', h1, h2⟩, G.rt, G.nx, fun d' σ2 H3 h1 h2 => ⟨d', h1, h2⟩⟩
/-- a target: which data it takes, what becomes of the slots -/
def TgOk (K : Fg) (g : TG) (ok : PyData → Prop) (f : PyData → Env → Env) : Prop := ∀ H0 F H σ δ v x, ok x → Td K H v x → Sg K H0 F H σ δ → ∀ Q : L2.St → Hp → Prop, (∀ σ', Sg K H0 F H σ' (f x δ) → Q σ' H) → g v σ H Q
theorem tg_name {j : Nat} : TgOk K (gName j) (fun _ => True) (fun x δ => δ.set j (some (.d x))) := fun H0 F H σ δ v x _ t S Q q => q _ (S.setD (e := .d x) t rfl)
def SetT (is : List Nat) (x : PyData) (δ : Env) : Env := match x with
  | .tuple ds => SetAll (is.zip ds) δ
  | _ => δ
theorem tg_tup {is : List Nat} {n : Nat} (hn : is.length = n) : TgOk K (gTup K n (gNames is)) (fun x => ∃ ds, x = .tuple ds ∧ ds.length = n) (SetT is) := fun H0 F H σ δ v x ⟨ds, e, hl⟩ t S Q q => by
  subst e
  obtain ⟨a, xs, rfl, h1, h2⟩ := t.tup_inv
  exact ⟨a, xs, rfl, h1, by rw [h2.len, hl], names_go is xs ds δ σ H Q (by omega) h2 S q⟩
/-- over a tuple of data -/
theorem run_forT {g : TG} {ok : PyData → Prop} {f : PyData → Env → Env} (I : Nat → Env → Prop) (tg : TgOk K g ok f) {ts : TE} (h : EvD K ts δ (.tuple ds)) (h0 : I 0 δ)
    (hs : ∀ i x d, ds[i]? = some x → I i d → ok x ∧ Run K t (f x d) { P with nx := I (i + 1), ct := I (i + 1), bk := P.nx }) (hd : ∀ d, I ds.length d → P.nx d) : Run K (tFor (iTup K ts) g t) δ P := fun H0 F H σ D S G =>
  h H0 F H σ S _ fun v H2 e2 t2 => by
    obtain ⟨a, xs, rfl, h1, h2⟩ := t2.tup_inv
    obtain ⟨F', S2, x, tx, _⟩ := (S.mono e2).frame
    have G2 := G.back S.base x
    have h1' := sqt_tx tx h1
    have h2' := Tds.tx tx h2
    refine ⟨a, rfl, ⟨xs, h1⟩, ?_⟩
    refine for_tup (xs := xs) (fun i σ' H' => ∃ d, I i d ∧ Sg K H0 F' H' σ' d) ⟨δ, h0, S2⟩ (fun i σ' H' hi ⟨d, hI, S'⟩ => sqt_tx (Tx.of S'.ex) h1') (fun i v σ' H' hv ⟨d, hI, S'⟩ => ?_) fun σ' H' ⟨d, hI, S'⟩ => G2.nx d σ' H' (hd d (by rw [← h2.len]; exact hI)) S'
    obtain ⟨y, hy, ty⟩ := h2'.got hv
    obtain ⟨ho, hr⟩ := hs i y d hy hI
    exact tg H0 F' H' σ' d v y ho (ty.ex S'.ex) S' _ fun σ2 S3 => hr H0 F' H' σ2 _ S3 ⟨fun d' σ2 H3 h1 h2 => ⟨d', h1, h2⟩, G2.rt, G2.nx, fun d' σ2 H3 h1 h2 => ⟨d', h1, h2⟩⟩
/-- over a new list -/
theorem run_forN {g : TG} {ok : PyData → Prop} {f : PyData → Env → Env} (I : Nat → Env → Prop) (tg : TgOk K g ok f) {ts : TE} (h : EvN K ts δ ds) (h0 : I 0 δ)
    (hs : ∀ i x d, ds[i]? = some x → I i d → ok x ∧ Run K t (f x d) { P with nx := I (i + 1), ct := I (i + 1), bk := P.nx }) (hd : ∀ d, I ds.length d → P.nx d) : Run K (tFor (iList K ts) g t) δ P := fun H0 F H σ D S G =>
  h H0 F H σ S _ fun p xs H2 hp e2 h1 h2 => by
    obtain ⟨F', S2, x, tx, kp⟩ := (S.mono e2).frame
    have G2 := G.back S.base x
    have h1' : F' p = some (.lst xs) := kp p _ h1 fun i e hi ho hz => by
      obtain ⟨v, g1, g2⟩ := S.has i e hi
      obtain ⟨b, u, rfl, _, q, _⟩ := own_at g2 ho
      rw [hz] at g1
      cases g1
      rw [hp] at q
      cases q
    have h2' := Tds.tx tx h2
    refine ⟨p, rfl, ⟨xs, SqL.of h1⟩, ?_⟩
    refine for_list (xs := xs) (fun i σ' H' => ∃ d, I i d ∧ Sg K H0 F' H' σ' d) ⟨δ, h0, S2⟩ (fun i σ' H' hi ⟨d, hI, S'⟩ => SqL.of (S'.ex _ _ h1')) (fun i v σ' H' hv ⟨d, hI, S'⟩ => ?_) fun σ' H' ⟨d, hI, S'⟩ => G2.nx d σ' H' (hd d (by rw [← h2.len]; exact hI)) S'
    obtain ⟨y, hy, ty⟩ := h2'.got hv
    obtain ⟨ho, hr⟩ := hs i y d hy hI
    exact tg H0 F' H' σ' d v y ho (ty.ex S'.ex) S' _ fun σ2 S3 => hr H0 F' H' σ2 _ S3 ⟨fun d' σ2 H3 h1 h2 => ⟨d', h1, h2⟩, G2.rt, G2.nx, fun d' σ2 H3 h1 h2 => ⟨d', h1, h2⟩⟩
/-- for a, b in zip(xs, ys): two new lists of one length -/
theorem run_forZ {is : List Nat} (h2n : is.length = 2) (I : Nat → Env → Prop) (h : EvN K ta δ ds) (h' : EvN K tb δ es) (hl : ds.length = es.length) (h0 : I 0 δ)
    (hs : ∀ i x y d, ds[i]? = some x → es[i]? = some y → I i d → Run K t (SetAll (is.zip [x, y]) d) { P with nx := I (i + 1), ct := I (i + 1), bk := P.nx }) (hd : ∀ d, I ds.length d → P.nx d) :
    Run K (tFor (iZip K (tCons ta (tCons tb tNil))) (gTup K 2 (gNames is)) t) δ P := fun H0 F H σ D S G =>
  h H0 F H σ S _ fun p xs H1 hp e1 h1 t1 => h' H0 F H1 σ (S.mono e1) _ fun p' ys H2 hp' e2 h2 t2 => by
    have h1b := e2 _ _ h1
    have t1b := t1.ex e2
    obtain ⟨F', S2, x, tx, kp⟩ := (S.mono (e1.trans e2)).frame
    have G2 := G.back S.base x
    have far : ∀ (q : Addr) (H' : Hp) (S' : Sg K H0 F H' σ δ), H' q = none → ∀ (i : Nat) (e : Ent), δ[i]? = some (some e) → e.own = true → σ[i]? ≠ some (some (.ref q)) := fun q H' S' hq i e hi ho hz => by
      obtain ⟨v, g1, g2⟩ := S'.has i e hi
      obtain ⟨b, u, rfl, _, r, _⟩ := own_at g2 ho
      rw [hz] at g1
      cases g1
      rw [hq] at r
      cases r
    have k1 : F' p = some (.lst xs) := kp p _ h1b (far p H S hp)
    have k2 : F' p' = some (.lst ys) := kp p' _ h2 (far p' H1 (S.mono e1) hp')
    refine ⟨p, p', xs, ys, rfl, SqL.of h1b, SqL.of h2, ?_⟩
    refine RZ.for_zipL (xs := xs) (ys := ys) (by rw [t1.len, t2.len, hl]) (fun i σ' H' => ∃ d, I i d ∧ Sg K H0 F' H' σ' d) ⟨δ, h0, S2⟩ (fun i σ' H' ⟨d, hI, S'⟩ => ⟨SqL.of (S'.ex _ _ k1), SqL.of (S'.ex _ _ k2)⟩)
      (fun i v w T σ' H' hv hw ⟨d, hI, S'⟩ hT => ?_) fun σ' H' ⟨d, hI, S'⟩ => G2.nx d σ' H' (hd d (by rw [← t1.len]; exact hI)) S'
    obtain ⟨y, hy, ty⟩ := (Tds.tx tx t1b).got hv
    obtain ⟨z, hz, tz⟩ := (Tds.tx tx t2).got hw
    have xT : Ex H' (upd H' T (.tup [v, w])) := Ex.new hT
    have ts : Tds K (upd H' T (.tup [v, w])) [v, w] [y, z] := .cons ((ty.ex S'.ex).ex xT) (.cons ((tz.ex S'.ex).ex xT) .nil)
    exact ⟨T, [v, w], rfl, SqT.of upd_same, rfl, names_go is [v, w] [y, z] d σ' _ _ h2n ts (S'.mono xT) fun σ2 S3 => hs i y z d hy hz hI H0 F' _ σ2 _ S3 ⟨fun d' σ2 H3 h1 h2 => ⟨d', h1, h2⟩, G2.rt, G2.nx, fun d' σ2 H3 h1 h2 => ⟨d', h1, h2⟩⟩⟩
/-- while, by a measure -/
theorem run_while (I : Env → Prop) (μ : Env → Nat) (h0 : I δ) (hs : ∀ d, I d → ∃ b, EvB K tt d b ∧ (b = true → Run K t d { P with nx := fun d' => I d' ∧ μ d' < μ d, ct := fun d' => I d' ∧ μ d' < μ d, bk := P.nx }) ∧ (b = false → P.nx d)) :
    Run K (tWhile tt t) δ P := fun H0 F H σ D S G => by
  refine ⟨fun m σ' H' => ∃ d, I d ∧ μ d = m ∧ Sg K H0 F H' σ' d, ⟨μ δ, δ, h0, rfl, S⟩, fun m σ' H' ⟨d, hI, hm, S'⟩ => ?_⟩
  obtain ⟨b, hb, h1, h2⟩ := hs d hI
  refine hb H0 F H' σ' S' _ fun H2 e2 => ?_
  cases b with
  | true =>
    refine ⟨fun σ2 H3 => ∃ d', (I d' ∧ μ d' < μ d) ∧ Sg K H0 F H3 σ2 d', fun σ2 H3 ⟨d', ⟨i1, i2⟩, S3⟩ => ⟨μ d', by omega, d', i1, rfl, S3⟩, ?_⟩
    exact h1 rfl H0 F H2 σ' _ (S'.mono e2) ⟨fun d' σ2 H3 g1 g2 => ⟨d', g1, g2⟩, G.rt, G.nx, fun d' σ2 H3 g1 g2 => ⟨d', g1, g2⟩⟩
  | false => exact G.nx d σ' H2 (h2 rfl) (S'.mono e2)
/-! comprehensions -/
def wipeE (δ : Env) (vs : List Nat) : Env := vs.foldr (fun i d => d.set i none) δ
/-- slots that have been wiped, then set, are wiped the same -/
theorem wipe_set {σ : L2.St} {j : Nat} {x : Option V} : ∀ {vs : List Nat}, j ∈ vs → wipe (σ.set j x) vs = wipe σ vs
  | [], h => by cases h
  | v :: vs, h => by
    show (wipe (σ.set j x) vs).set v none = (wipe σ vs).set v none
    by_cases e : j ∈ vs
    · rw [wipe_set e]
    · have e2 : j = v := by
        rcases List.mem_cons.mp h with z | z
        · exact z
        · exact absurd z e
      subst e2
      have key : ∀ (vs : List Nat) (σ : L2.St), j ∉ vs → wipe (σ.set j x) vs = (wipe σ vs).set j x := by
        intro vs
        induction vs with
        | nil => intro _ _; rfl
        | cons a r ih =>
          intro σ hn
          show (wipe (σ.set j x) r).set a none = ((wipe σ r).set a none).set j x
          rw [ih σ (fun z => hn (List.mem_cons_of_mem _ z)), List.set_comm _ _ (fun z => hn (by rw [z]; exact List.mem_cons_self))]
      rw [key vs σ e, List.set_set]
theorem wipe_idem {σ : L2.St} : ∀ {vs : List Nat}, wipe (wipe σ vs) vs = wipe σ vs := by
  have key : ∀ (us vs : List Nat) (σ : L2.St), (∀ u ∈ us, u ∈ vs) → wipe (wipe σ us) vs = wipe σ vs := by
    intro us
    induction us with
    | nil => intro vs σ _; rfl
    | cons u r ih =>
      intro vs σ h
      show wipe ((wipe σ r).set u none) vs = wipe σ vs
      rw [wipe_set (h u List.mem_cons_self), ih vs σ fun z hz => h z (List.mem_cons_of_mem _ hz)]
  exact fun {vs} => key vs vs σ fun _ h => h
/-- the comprehension's targets: they set slots of vs alone -/
def TgW (K : Fg) (vs : List Nat) (g : TG) (ok : PyData → Prop) (f : PyData → Env → Env) : Prop := ∀ H0 F H σ δ v x, ok x → Td K H v x → Sg K H0 F H σ δ → ∀ Q : L2.St → Hp → Prop, (∀ σ', Sg K H0 F H σ' (f x δ) → wipe σ' vs = wipe σ vs → Q σ' H) → g v σ H Q
theorem tgw_name {j : Nat} {vs : List Nat} (h : j ∈ vs) : TgW K vs (gName j) (fun _ => True) (fun x δ => δ.set j (some (.d x))) := fun H0 F H σ δ v x _ t S Q q => q _ (S.setD (e := .d x) t rfl) (wipe_set h)
theorem names_goW {H0 F : Hp} {vs : List Nat} : ∀ (is : List Nat) (xs : List V) (ds : List PyData) (δ : Env) (σ : L2.St) (H : Hp) (Q : L2.St → Hp → Prop), (∀ i ∈ is, i ∈ vs) → is.length = ds.length → Tds K H xs ds → Sg K H0 F H σ δ →
    (∀ σ', Sg K H0 F H σ' (SetAll (is.zip ds) δ) → wipe σ' vs = wipe σ vs → Q σ' H) → gNames is xs σ H Q
  | [], xs, [], δ, σ, H, Q, _, _, t, S, q => by
    cases t
    exact ⟨rfl, q σ S rfl⟩
  | [], _, _ :: _, _, _, _, _, _, e, _, _, _ => by cases e
  | _ :: _, _, [], _, _, _, _, _, e, _, _, _ => by cases e
  | i :: is, xs, d :: ds, δ, σ, H, Q, hv, e, t, S, q => by
    cases t with
    | cons h t => exact ⟨_, _, rfl, names_goW is _ ds _ _ H Q (fun k hk => hv k (List.mem_cons_of_mem _ hk)) (Nat.succ.inj e) t (S.setD (e := .d d) h rfl) fun σ' S' hw => q σ' S' (by rw [hw, wipe_set (hv i List.mem_cons_self)])⟩
theorem tgw_tup {is vs : List Nat} {n : Nat} (hn : is.length = n) (hv : ∀ i ∈ is, i ∈ vs) : TgW K vs (gTup K n (gNames is)) (fun x => ∃ ds, x = .tuple ds ∧ ds.length = n) (SetT is) := fun H0 F H σ δ v x ⟨ds, e, hl⟩ t S Q q => by
  subst e
  obtain ⟨a, xs, rfl, h1, h2⟩ := t.tup_inv
  exact ⟨a, xs, rfl, h1, by rw [h2.len, hl], names_goW is xs ds δ σ H Q hv (by omega) h2 S q⟩
/-- [e for j in range(n)] -/
theorem en_lcR {j n : Nat} {vs : List Nat} {ts : TE} (e : Nat → PyData) (h : EvD K ts δ (.int n)) (hn : n ≤ 1000000) (hj : j ∈ vs) (he : ∀ i, i < n → EvD K te ((wipeE δ vs).set j (some (.d (.int i)))) (e i)) :
    EvN K (tLc (iRng1 (tCons ts tNil)) (gName j) tYes te vs) δ ((List.range n).map e) := fun H0 F H σ S Q q =>
  h H0 F H σ S _ fun v H1 e1 t1 => by
    rw [t1.int_inv]
    have hn2 : (n : Int) ≤ 1000000 := by omega
    refine ⟨n, rfl, by omega, by omega, fun D hD => ?_⟩
    rw [Int.toNat_natCast]
    have S1 := (S.mono e1).wipe vs
    refine lc_range (lo := 0) (n := n) (fun i H' => Ex H1 H' ∧ ∃ xs, H' D = some (.lst xs) ∧ Tds K H' xs ((List.range i).map e)) ⟨Ex.new hD, [], upd_same, .nil⟩ (fun i H' hi ⟨x, xs, hx, tx⟩ => ?_) fun H' ⟨x, xs, hx, tx⟩ => q D xs H' (fresh_back e1 hD) (e1.trans x) hx tx
    have e0 : (0 : Int) + (i : Int) = (i : Int) := Int.zero_add _
    refine ⟨by rw [wipe_set hj, wipe_idem], ?_⟩
    rw [e0]
    show te ((wipe σ vs).set j (some (.int (i : Int)))) H' _
    refine he i hi H0 F H' _ ((S1.mono x).setD (e := .d (.int i)) (.int _) rfl) _ fun w H2 e2 t2 => ?_
    have hl : xs.length < 1000000 := by
      rw [tx.len, List.length_map, List.length_range]
      omega
    refine ⟨xs, e2 _ _ hx, szl hl, (x.trans e2).mut hD, xs ++ [w], upd_same, ?_⟩
    rw [List.range_succ, List.map_append]
    exact Tds.tx (Tx.lst (e2 _ _ hx)) (Tds.app (tx.ex e2) (Tds.one t2))
/-- [e for target in xs], a list that is read -/
theorem en_lcL {g : TG} {ok : PyData → Prop} {f : PyData → Env → Env} {vs : List Nat} {ts : TE} (e : PyData → PyData) (tg : TgW K vs g ok f) (h : EvR K ts δ ds) (hn : ds.length ≤ 1000000 - 1) (he : ∀ x, x ∈ ds → ok x ∧ EvD K te (f x (wipeE δ vs)) (e x)) :
    EvN K (tLc (iList K ts) g tYes te vs) δ (ds.map e) := fun H0 F H σ S Q q =>
  h H0 F H σ S _ fun p ys H1 e1 h1 t1 => by
    refine ⟨p, rfl, ⟨ys, h1⟩, fun D hD => ?_⟩
    have S1 := (S.mono e1).wipe vs
    refine lc_list (xs := ys) (fun i H' => Ex H1 H' ∧ ∃ xs, H' D = some (.lst xs) ∧ Tds K H' xs ((ds.take i).map e)) ⟨Ex.new hD, [], upd_same, by simpa using Tds.nil⟩ (fun i H' hi ⟨x, _⟩ => ex_l x h1) (fun i v H' hv ⟨x, xs, hx, tx⟩ => ?_)
      fun H' ⟨x, xs, hx, tx⟩ => q D xs H' (fresh_back e1 hD) (e1.trans x) hx (by rw [t1.len, List.take_length] at tx; exact tx)
    obtain ⟨y, hy, ty⟩ := t1.got hv
    obtain ⟨ho, hr⟩ := he y (List.mem_of_getElem? hy)
    refine tg H0 F H' _ _ v y ho (ty.ex x) (S1.mono x) _ fun σ2 S2 hw => ⟨by rw [hw, wipe_idem], ?_⟩
    show te σ2 H' _
    refine hr H0 F H' σ2 S2 _ fun w H2 e2 t2 => ?_
    have hi : i < ds.length := (List.getElem?_eq_some_iff.mp hy).1
    have hl : xs.length < 1000000 := by
      rw [tx.len, List.length_map, List.length_take]
      omega
    refine ⟨xs, e2 _ _ hx, szl hl, (x.trans e2).mut hD, xs ++ [w], upd_same, ?_⟩
    rw [List.take_add_one, hy, List.map_append]
    exact Tds.tx (Tx.lst (e2 _ _ hx)) (Tds.app (tx.ex e2) (Tds.one t2))
end
end Fkh
/-! rules that the hand layer lacks -/
namespace Fkh
section
open PySem PySem.SeqAt
open PySem.AutoSeq1 (wpAny_loadPart')
open PySem.MeetsSeq PySem.MeetsSeq2 PySem.MeetsSeq3
/-- a tuple times 1 is itself; times 0 a new empty one -/
theorem mul_one (l : Addr) (items : Array Value) (n : Nat) (dd : Option Addr) (sl : Array (Option Value)) (u : Tok) :
    Meets (Builtin.«tuple.__mul__» ⟨[.ref l, .int 1 u], []⟩) (fun _ R s => s.heap.get? l = some { cls := .type "tuple", dict := dd, data := .seq items n, slots := sl } ∧ R (.ok (.ret (Value.ref l))) s) :=
  .of_wp fun prog w A R s h => by
    obtain ⟨hp, g, d, tk, os⟩ := s
    obtain ⟨hl, h⟩ := h
    have f1 := AutoSeq1.idx_int
    wp_walk using wpAny_loadPart' hl
    exact ⟨_, rfl, h⟩
theorem mul_zero (l : Addr) (items : Array Value) (hne : items.isEmpty = false) (n : Nat) (dd : Option Addr) (sl : Array (Option Value)) (u : Tok) :
    Meets (Builtin.«tuple.__mul__» ⟨[.ref l, .int 0 u], []⟩) (fun _ R s => s.heap.get? l = some { cls := .type "tuple", dict := dd, data := .seq items n, slots := sl } ∧
      R (.ok (.ret (Value.ref s.heap.objs.size))) { s with heap := s.heap.push { cls := Value.type "tuple", data := Data.seq #[] }, toks := s.toks }) :=
  .of_wp fun prog w A R s h => by
    obtain ⟨hp, g, d, tk, os⟩ := s
    obtain ⟨hl, h⟩ := h
    have f1 := AutoSeq1.idx_int
    wp_walk using wpAny_loadPart' hl
    repeat (first
      | (refine wpAny_ite_false (decide_eq_false (by rw [hne]; decide)) ?_; wp_walk using wpAny_loadPart' hl))
    exact ⟨_, rfl, h⟩
end
open PySem PySem.Spec PyProof.Rows L2 Evl
def rRepA (K : Fg) : R2 := fun x y H Q => ∃ l k xs, x = .ref l ∧ y = .int k ∧ SqT K H l xs ∧ xs ≠ [] ∧ 0 ≤ k ∧ k ≤ 1000 ∧ xs.length ≤ 1000 ∧ (k = 1 → Q (.ref l) H) ∧ (k ≠ 1 → ∀ p, H p = none → Q (.ref p) (upd H p (.tup (List.replicate k.toNat xs).flatten)))
section
variable {X : Cx}
theorem op_repA : OpR X (binaryOp .Mult) (rRepA X.K) := by
  intro pins s σ H x y v u Q I rx ry h
  obtain ⟨l, k, xs, rfl, rfl, hT, hne, h0, h2, hz, q1, q⟩ := h
  by_cases hk : 2 ≤ k
  · exact op_repT pins s σ H _ _ v u Q I rx ry ⟨l, k, xs, rfl, rfl, hT, hne, hk, h2, hz, q (by omega)⟩
  cases rx
  obtain ⟨t, rfl⟩ := ry
  obtain ⟨its, r, ⟨⟨cls, dd, data, sl⟩, ho, hc, n, hd⟩, hs⟩ := I.tuple hT
  simp only at hc hd
  subst hc hd
  have hi : its.toArray.isEmpty = false := by
    cases its with
    | nil =>
      have e := r.length
      cases xs with
      | nil => exact absurd rfl hne
      | cons a b => cases e
    | cons a b => rfl
  rcases (show k = 0 ∨ k = 1 by omega) with rfl | rfl
  · refine wpAny_binaryOp_repeat_ref (T := "tuple") (U := "int") (by decide) ⟨_, ho, rfl⟩ (fun s' => typeIs_int s' 0 t) noFill_tuple_mul F.fills_int_mul F.slot_int_rmul repeat_tuple F.slot_int_index.lookup
      (call_meets F.slot_int_rmul (typeIs_int s 0 t) F.entry_int_rmul (F.args_int_rmul_2 _ _) (int_rmul_tuple 0 t l its.toArray n dd sl)
        ⟨ho, rfl, ⟨_, ho, rfl⟩, call_meets F.slot_tuple_mul ⟨_, ho, rfl⟩ F.entry_tuple_mul (F.args_tuple_mul_2 _ _) (mul_zero l its.toArray hi n dd sl t) ⟨ho, ?_⟩⟩)
    refine ⟨.ref s.heap.objs.size, _, I.laid (t' := s.toks) (o := .tup []) (fun b ob q => Heap.get?_push_of_some _ q) (Nat.le_refl _) ?_, rfl, q (by decide) _ (I.hok.fresh (Nat.le_refl _))⟩
    exact ⟨Nat.zero_le _, [], .nil, IsTup.new _ #[]⟩
  · refine wpAny_binaryOp_repeat_ref (T := "tuple") (U := "int") (by decide) ⟨_, ho, rfl⟩ (fun s' => typeIs_int s' 1 t) noFill_tuple_mul F.fills_int_mul F.slot_int_rmul repeat_tuple F.slot_int_index.lookup
      (call_meets F.slot_int_rmul (typeIs_int s 1 t) F.entry_int_rmul (F.args_int_rmul_2 _ _) (int_rmul_tuple 1 t l its.toArray n dd sl)
        ⟨ho, rfl, ⟨_, ho, rfl⟩, call_meets F.slot_tuple_mul ⟨_, ho, rfl⟩ F.entry_tuple_mul (F.args_tuple_mul_2 _ _) (mul_one l its.toArray n dd sl t) ⟨ho, ?_⟩⟩)
    exact ⟨.ref l, H, I.tok _, rfl, q1 rfl⟩
/-- divmod by any small divisor but 0 -/
theorem call_divmodN : CallR X (.builtin "divmod") (fun xs H Q => ∃ i j, xs = [.int i, .int j] ∧ CDivN i j ∧ ∀ p, H p = none → Q (.ref p) (upd H p (.tup [.int (i.fdiv j), .int (i.fmod j)]))) := by
  intro pins s σ H xs us Q I r h
  obtain ⟨i, j, rfl, ⟨h1, h2⟩, q⟩ := h
  obtain ⟨u, w', rfl, ⟨t, rfl⟩, ⟨t', rfl⟩⟩ := vals2 r
  refine divmod_int h1 ?_ (.inl (PyProof.noPylong_small h2))
  have hn : H s.heap.objs.size = none := I.hok.fresh (Nat.le_refl _)
  refine ⟨.ref s.heap.objs.size, _, ?_, rfl, q _ hn⟩
  refine I.laid (fun b o e => Heap.get?_push_of_some _ e) (Nat.le_refl _) ⟨by simp only [List.length_cons, List.length_nil]; rw [sizeLine_eq]; decide, [.int (i.fdiv j) s.toks, .int (i.fmod j) (s.toks + 1)], .cons ⟨_, rfl⟩ (.cons ⟨_, rfl⟩ .nil), ?_⟩
  exact ⟨_, Heap.get?_push_size s.heap rfl, rfl, 0, rfl⟩
/-- operands (a text, a number): which comes first -/
def ltO (a : Str) (i : Int) (b : Str) (j : Int) : Bool := if a = b then decide (i < j) else decide (a.cps.toList < b.cps.toList)
def rLtO (K : Fg) : R2 := fun x y H Q => ∃ p q a i b j, x = .ref p ∧ y = .ref q ∧ SqT K H p [.str a, .int i] ∧ SqT K H q [.str b, .int j] ∧ (a = b → i = j → False ∨ True) ∧ Q (.bl (ltO a i b j)) H
theorem op_ltO (hu : X.A.units + 1 < cLine) : OpR X (compareOp .Lt) (rLtO X.K) := by
  intro pins s σ H x y v u Q I rx ry h
  obtain ⟨p, q, a, i, b, j, rfl, rfl, ha, hb, _, k⟩ := h
  cases rx
  cases ry
  obtain ⟨its, r1, p1, _⟩ := I.tuple ha
  obtain ⟨its2, r2, p2, _⟩ := I.tuple hb
  obtain ⟨u1, u2, rfl, ⟨t1, rfl⟩, ⟨t2, rfl⟩⟩ := vals2 r1
  obtain ⟨w1, w2, rfl, ⟨t3, rfl⟩, ⟨t4, rfl⟩⟩ := vals2 r2
  have R := Ob.RcOp.tuples_lt (A := X.A) (s := s) (e := fun n => match n with | 0 => a == b | _ => i == j) (r := fun n => match n with | 0 => decide (a.cps.toList < b.cps.toList) | _ => decide (i < j)) p1 p2 (by omega) (fun n h1 h2 => by
    match n, h1, h2 with
    | 0, _, _ => exact SeqAt.EqAt.str_str _ _ _ _
    | 1, _, _ => exact SeqAt.EqAt.int_int _ _ _ _
    | n + 2, h1, _ => exact absurd h1 (by simp)) (fun n h1 h2 _ => by
    match n, h1, h2 with
    | 0, _, _ => exact fun prog w E Q h => DT.rcLt_str _ _ _ _ _ _ prog w E Q h
    | 1, _, _ => exact Ob.RcOp.lt_int _ _ _ _
    | n + 2, h1, _ => exact absurd h1 (by simp))
  have z : wpAny (model X.prog X.w) X.A (compareOp .Lt (.ref p) (.ref q)) (EP X pins σ Q) X.xe s := R X.prog X.w X.xe (EP X pins σ Q) ⟨.bl _, H, I, by
    show Value.bool _ = Value.bool _
    congr 1
    show (if (a == b) = true then (if (i == j) = true then _ else decide (i < j)) else decide (a.cps.toList < b.cps.toList)) = ltO a i b j
    unfold ltO
    by_cases e : a = b
    · rw [if_pos (beq_iff_eq.mpr e), if_pos e]
      by_cases e2 : i = j
      · rw [if_pos (beq_iff_eq.mpr e2), e2]
        exact (decide_eq_false (Int.lt_irrefl j)).symm
      · rw [if_neg (fun z => e2 (beq_iff_eq.mp z))]
    · rw [if_neg (fun z => e (beq_iff_eq.mp z)), if_neg e], k⟩
  exact z
/-- {(i, j): v}: one pair, its key a tuple -/
def tDisp1 (tk tv : TE) : TE := fun σ H Q => ∀ p, H p = none → tk σ (upd H p (.dT [])) fun x H1 => tv σ H1 fun y H2 => H2 p = some (.dT []) ∧ ∃ (b : Addr) (k : List L2.Key), x = .ref b ∧ H2 b = some (.tup (k.map kV)) ∧ Q (.ref p) (upd H2 p (.dT [(k, y)]))
theorem pe_disp1 {k v : Expr} {tk tv : TE} {pos : Pos} (hu : X.A.units + 1 < cLine) (hk : PE X k tk) (hv : PE X v tv) : PE X (.Dict [some k] [v] pos) (tDisp1 tk tv) := by
  refine ⟨fun pins s σ H Q I q => ?_⟩
  have hn := I.hok.fresh (Nat.le_refl s.heap.objs.size)
  have I1 := I.laid (a := s.heap.objs.size) (o := .dT []) (h' := s.heap.push { cls := .type "dict", data := .dict #[] }) (t' := s.toks) (fun _ _ q => Heap.get?_push_of_some _ q) (Nat.le_refl _) (dt_empty s.heap I.big)
  rw [arm_eval_Dict, zip_pairTrees [some k] [v] X.env pos rfl rfl, dictDisplay_pairs (pairTrees [some k] [v] X.env pos) (fun z => by cases z) (by show 1 < 17; decide)]
  refine wpAny_bind (wpAny_standAt (wpAny_bind (wpAny_subDictH (knd := tupleKind (mixKind X.prog X.w)) (show X.A.units < cLine by omega) (by show 1 ≤ 15; decide) ?_)))
  refine pairTrees_cons_walk (thn (hk.run pins _ σ _ _ I1 (q _ hn)) fun u s1 ⟨x, H1, I2, rx, q1⟩ => thn (hv.run pins s1 σ H1 _ I2 q1) fun w2 s2 ⟨y, H2, I3, ry, q2⟩ => pairTrees_nil_walk ?_)
  obtain ⟨e, b, ks, rfl, eb, q3⟩ := q2
  cases rx
  obtain ⟨z, hd, xs, rel, dd⟩ := dt_of I3.hok e
  cases rel
  refine ⟨[(ks, b, w2)], ⟨rfl, rfl, key_of I3.hok eb, trivial⟩, dd, fun h' tk dd' hs => wpAny_pure ⟨.ref s.heap.objs.size, _, ?_, rfl, q3⟩⟩
  have dd2 : h'.DictOfH (tupleKind (mixKind X.prog X.w)) s.heap.objs.size [(ks, b, w2)] := dd'
  obtain ⟨o, es, ep, hq, h2, h3, h4, _, h5⟩ := dd2
  refine d_write I3 (by rw [e]; exact True.intro) hs ⟨o, hq⟩ ⟨by show 1 ≤ sizeLine; decide, hd, [(ks, b, w2)], .cons ⟨rfl, ?_, ry⟩ .nil, o, es, ep, hq, h2, h3, h4, h5⟩
  rw [upd_ne (ne_of eb e (fun z => nomatch z))]
  exact eb
/-- sorted(d), d's keys pairs of ints: a new list of the keys, somehow arranged -/
def encP (k : Int × Int) : PyData := .tuple [.int k.1, .int k.2]
def sortK (ks : List (Int × Int)) : List (Int × Int) := ks.mergeSort (PySem.W.dataLe false encP)
theorem sortK_perm (ks : List (Int × Int)) : (sortK ks).Perm ks := List.mergeSort_perm _ _
def rSortD : List V → Hp → VK → Prop := fun xs H Q => ∃ (a : Addr) (kvs : Kvs), xs = [.ref a] ∧ H a = some (.dT (encD kvs)) ∧ ∀ (p : Addr) (ys : List V), Paired (fun v k => ∃ b, v = V.ref b ∧ H b = some (.tup ((encK k).map kV))) ys (sortK (kvs.map (·.1))) → H p = none → Q (.ref p) (upd H p (.lst ys))
def IsK (H : Hp) (v : Value) (k : Int × Int) : Prop := ∃ b, v = Value.ref b ∧ H b = some (.tup ((encK k).map kV))
theorem each_at {α β : Type} {R : α → β → Prop} : ∀ {as : List α} {bs : List β}, as.length = bs.length → (∀ (i : Nat) (a : α) (b : β), as[i]? = some a → bs[i]? = some b → R a b) → PySem.W.EachIs R as bs
  | [], [], _, _ => .nil
  | [], _ :: _, e, _ => by cases e
  | _ :: _, [], e, _ => by cases e
  | a :: as, b :: bs, e, h => .cons (h 0 a b rfl rfl) (each_at (Nat.succ.inj e) fun i x y hx hy => h (i + 1) x y (by simpa using hx) (by simpa using hy))
theorem each_back {H : Hp} : ∀ {out : List Value} {ks : List (Int × Int)}, PySem.W.EachIs (IsK H) out ks → ∃ ys, Vals ys out ∧ Paired (fun v k => ∃ b, v = V.ref b ∧ H b = some (.tup ((encK k).map kV))) ys ks
  | _, _, .nil => ⟨[], .nil, .nil⟩
  | _, _, .cons h t => by
    obtain ⟨ys, h1, h2⟩ := each_back t
    obtain ⟨b, rfl, hb⟩ := h
    exact ⟨V.ref b :: ys, .cons rfl h1, .cons ⟨b, rfl, hb⟩ h2⟩
theorem call_sortD (hcalm : X.calm = true) (hu : X.A.units + 10 < cLine) : CallR X (.builtin "sorted") rSortD := by
  intro pins s σ H xs us Q I r q
  obtain ⟨a, kvs, rfl, hd, q⟩ := q
  obtain ⟨u, rfl, rx⟩ := vals1 r
  cases rx
  obtain ⟨z, lo, xs, rel, dd⟩ := dt_of I.hok hd
  obtain ⟨o, es, ep, ho, hex, hda, hes, his, hnd⟩ := id dd
  have hraw : s.heap.DictRaw a es ep := ⟨o, ho, hex, hda⟩
  have hlen : es.size = xs.length := by rw [← Array.length_toList, hes, List.length_map]
  have hxl : xs.length = kvs.length := by rw [← Paired.length rel]; exact List.length_map _
  have hz : es.size ≤ sizeLine := by rw [hlen, hxl]; rw [encD, List.length_map] at z; exact z
  refine Calls.call_function_entry PyProof.Rows.kind_sorted PyProof.Rows.plain_sorted PyProof.Rows.entry_sorted (PyProof.Rows.args_sorted1 _) ?_
  unfold Builtin.«sorted»
  refine wpAny_bind (m := checkCount "sorted" 1 1 _) (wpAny_pure ?_)
  refine wpAny_bind (PySem.W.kdu_collect (A := X.A.in1) (PySem.KdlSrc.rawDict (es := es) (ep := ep) lo) (I.ok.hd hcalm) hraw hz fun h' tk acc hk hacc => ?_)
  have hal : acc.toList.length = (kvs.map (·.1)).length := by rw [Array.length_toList, hacc.1, List.length_map, hlen, hxl]
  have er : PySem.W.EachIs (IsK H) acc.toList (kvs.map (·.1)) := each_at hal fun j v k e1 e2 => by
    obtain ⟨hi, ev⟩ := hacc.2 j v (by rw [← Array.getElem?_toList]; exact e1)
    have e3 : es.toList[j]? = some es[j] := by rw [Array.getElem?_toList, Array.getElem?_eq_getElem hi]
    rw [hes, List.getElem?_map] at e3
    cases e4 : xs[j]? with
    | none => rw [e4] at e3; cases e3
    | some x =>
      rw [e4] at e3
      have e5 : entryOfKey (tupleKind (mixKind X.prog X.w)) x = es[j] := Option.some.inj e3
      obtain ⟨y, hy, g1, g2, _⟩ := L2.DX.pget rel e4
      rw [encD, List.getElem?_map] at hy
      rw [List.getElem?_map] at e2
      cases e6 : kvs[j]? with
      | none => rw [e6] at hy; cases hy
      | some p =>
        rw [e6] at hy e2
        have e7 : (encK p.1, V.int p.2) = y := Option.some.inj hy
        have e8 : p.1 = k := Option.some.inj e2
        subst e7 e8
        refine ⟨x.2.1, ?_, g2⟩
        rw [ev, ← e5]
        rfl
  have I1 : Inv X pins σ H { s with heap := h', toks := tk } := I.kept hk
  have hal2 : acc.toList.length ≤ sizeLine := by rw [Array.length_toList, hacc.1]; exact hz
  refine wpAny_bind (wpAny_newList ?_ hal2)
  have hoL : (h'.push (seqObj "list" acc.toList.toArray 0)).get? h'.objs.size = some (seqObj "list" acc.toList.toArray 0) := Heap.get?_push_size _ rfl
  show wpAny _ _ _ _ _ { s with heap := h'.push (seqObj "list" acc.toList.toArray 0), toks := tk }
  have rd : ∀ v k, IsK H v k → ∃ as, Reads (h'.push (seqObj "list" acc.toList.toArray 0)) v (encP k) as ∧ h'.objs.size ∉ as := fun v k ⟨b, eb, hb⟩ => by
    subst eb
    obtain ⟨_, its, rv, ob, h1, h2, n, h3⟩ := (show ObjOk X.prog X.w H h' b (.tup ((encK k).map kV)) from I1.hok b _ hb)
    obtain ⟨u1, u2, rfl, ⟨t1, rfl⟩, ⟨t2, rfl⟩⟩ := vals2 rv
    exact ⟨[], Reads.tuple (Heap.get?_push_of_some _ h1) h2 h3 (ReadsAll.cons (Reads.int _ _) (ReadsAll.cons (Reads.int _ _) ReadsAll.nil)), fun z => nomatch z⟩
  refine wpAny_bind (wpAny_holding (PySem.W.list_sort_data (s := { s with heap := h'.push (seqObj "list" acc.toList.toArray 0), toks := tk }) (R := IsK H) (enc := encP) (bs := kvs.map (·.1)) hoL er (er.mono rd)
    (PySem.W.AllAlike.of fun b b' => by simp [encP, PySem.W.alike, PySem.W.alikeAll]) (PySem.W.Sortable.tuples fun b => ⟨_, _, rfl⟩) (by rw [← hal]; exact hal2) (fun b _ => by
      have e : (encP b).depth = 1 := by simp [encP, PyData.depth, PyData.depthAll]
      rw [e]
      show X.A.units + 1 + 1 + 1 < cLine
      omega) fun out hol ho => ?_))
  obtain ⟨e', he'⟩ := PyProof.Rows.sortedHeap_at (vs := acc.toList) (out := out.toArray) hoL
  obtain ⟨ys, hv, hp⟩ := each_back ho
  have hyl : ys.length ≤ sizeLine := by rw [hv.length, hol, ← hal]; exact hal2
  refine wpAny_pure ⟨_, rfl, .ref h'.objs.size, upd H h'.objs.size (.lst ys), I1.laid (t' := tk) (fun b u e => ?_) (Nat.le_refl _)
    (show ObjOk X.prog X.w _ _ _ (.lst ys) from ⟨hyl, out, e', hv, he'⟩), rfl, q _ ys hp (I1.hok.fresh (Nat.le_refl _))⟩
  have hb : b < h'.objs.size := Heap.lt_size e
  rw [PyProof.Rows.sortedHeap_old (Nat.ne_of_lt hb) (by rw [size_push']; exact Nat.lt_succ_of_lt hb)]
  exact Heap.get?_push_of_some _ e
end
end Fkh
namespace Fkh
open PySem PySem.Spec PyProof.Rows L2 Evl
/-! ### dicts of pairs of ints -/
def getK : Kvs → Int × Int → Option Int
  | [], _ => none
  | p :: r, k => if p.1 = k then some p.2 else getK r k
def putD (kvs : Kvs) (k : Int × Int) (v : Int) : Kvs := if (kvs.any fun p => decide (p.1 = k)) = true then kvs.map (fun p => if p.1 = k then (p.1, v) else p) else kvs ++ [(k, v)]
theorem encK_inj {a b : Int × Int} : encK a = encK b ↔ a = b := by
  constructor
  · intro e
    have e1 : (Sum.inl a.1 : L2.Key) = Sum.inl b.1 := (List.cons.inj e).1
    have e2 : (Sum.inl a.2 : L2.Key) = Sum.inl b.2 := (List.cons.inj (List.cons.inj e).2).1
    exact Prod.ext (Sum.inl.inj e1) (Sum.inl.inj e2)
  · intro e
    rw [e]
theorem valV_enc (k : Int × Int) : ∀ kvs : Kvs, valV (encD kvs) (encK k) = (getK kvs k).map V.int
  | [] => rfl
  | p :: r => by
    show valV ((encK p.1, V.int p.2) :: encD r) (encK k) = _
    unfold getK
    by_cases e : p.1 = k
    · rw [valV_pos (show (encK p.1, V.int p.2).1 = encK k by rw [e]), if_pos e]
      rfl
    · rw [valV_neg (show ¬ (encK p.1, V.int p.2).1 = encK k from fun z => e (encK_inj.mp z)), if_neg e, valV_enc k r]
theorem any_enc (k : Int × Int) : ∀ kvs : Kvs, ((encD kvs).any fun p => decide (p.1 = encK k)) = kvs.any fun p => decide (p.1 = k)
  | [] => rfl
  | p :: r => by
    show (decide (encK p.1 = encK k) || (encD r).any fun p => decide (p.1 = encK k)) = (decide (p.1 = k) || r.any fun p => decide (p.1 = k))
    rw [any_enc k r]
    congr 1
    by_cases e : p.1 = k
    · rw [decide_eq_true e, decide_eq_true (encK_inj.mpr e)]
    · rw [decide_eq_false e, decide_eq_false (fun z => e (encK_inj.mp z))]
theorem map_enc (k : Int × Int) (v : Int) : ∀ kvs : Kvs, (encD kvs).map (fun p => if p.1 = encK k then (p.1, V.int v) else p) = encD (kvs.map fun p => if p.1 = k then (p.1, v) else p)
  | [] => rfl
  | p :: r => by
    show (if encK p.1 = encK k then (encK p.1, V.int v) else (encK p.1, V.int p.2)) :: (encD r).map _ = (encK (if p.1 = k then (p.1, v) else p).1, V.int (if p.1 = k then (p.1, v) else p).2) :: encD (r.map _)
    rw [map_enc k v r]
    congr 1
    by_cases e : p.1 = k
    · rw [if_pos e, if_pos (encK_inj.mpr e)]
    · rw [if_neg e, if_neg (fun z => e (encK_inj.mp z))]
theorem put_enc (kvs : Kvs) (k : Int × Int) (v : Int) : putK (encD kvs) (encK k) (V.int v) = encD (putD kvs k v) := by
  unfold putK putD
  rw [any_enc]
  by_cases h : (kvs.any fun p => decide (p.1 = k)) = true
  · rw [if_pos h, if_pos h, map_enc]
  · rw [if_neg h, if_neg h]
    unfold encD
    rw [List.map_append] <;> rfl
section
variable {K : Fg} {δ : Env} {P : Post} {t u : TS} {ta tb te tk tv : TE} {tt : TT} {x y z : PyData} {ds es : List PyData} {b : Bool}
/-- a key: a new tuple of two ints -/
def EvK (K : Fg) (te : TE) (δ : Env) (k : Int × Int) : Prop := ∀ H0 F H σ, Sg K H0 F H σ δ → ∀ Q : VK, (∀ b H2, Ex H H2 → H2 b = some (.tup ((encK k).map kV)) → Q (.ref b) H2) → te σ H Q
theorem ek_tup {i j : Int} (h1 : EvD K ta δ (.int i)) (h2 : EvD K tb δ (.int j)) : EvK K (tTup (tCons ta (tCons tb tNil))) δ (i, j) := fun H0 F H σ S Q q =>
  h1 H0 F H σ S _ fun u H2 e2 t2 => h2 H0 F H2 σ (S.mono e2) _ fun v H3 e3 t3 => by
    rw [t2.int_inv, t3.int_inv]
    exact ⟨by show 2 ≤ sizeLine; decide, fun p hp => q p _ ((e2.trans e3).trans (Ex.new hp)) upd_same⟩
def optD : Option Int → PyData
  | some i => .int i
  | none => .none
/-- d.get(k) -/
theorem ed_get {i : Nat} {ad : Option Addr} {kvs : Kvs} {k : Int × Int} (h : δ[i]? = some (some (.r kvs)) ∨ δ[i]? = some (some (.m ad kvs))) (hk : EvK K tk δ k) : EvD K (tDGet1 (tVar i) tk) δ (optD (getK kvs k)) := fun H0 F H σ S Q q => by
  have key : ∃ a, σ[i]? = some (some (.ref a)) ∧ H a = some (.dT (encD kvs)) := by
    rcases h with h | h
    · obtain ⟨v, h1, a, rfl, h2⟩ := S.has i _ h
      exact ⟨a, h1, S.all _ _ h2⟩
    · obtain ⟨v, h1, a, rfl, _, h2, _⟩ := S.has i _ h
      exact ⟨a, h1, h2⟩
  obtain ⟨a, h1, h2⟩ := key
  refine ⟨_, h1, a, rfl, .inr ⟨_, .inl h2⟩, hk H0 F H σ S _ fun b H2 e2 hb => ?_⟩
  refine ⟨_, DGet.t (e2 _ _ h2) hb, q _ H2 e2 ?_⟩
  rw [valV_enc]
  cases getK kvs k with
  | none => exact .non
  | some v => exact .int v
/-- d[k], k there -/
theorem ed_at {i : Nat} {ad : Option Addr} {kvs : Kvs} {k : Int × Int} {n : Int} (h : δ[i]? = some (some (.r kvs)) ∨ δ[i]? = some (some (.m ad kvs))) (hk : EvK K tk δ k) (hn : getK kvs k = some n) : EvD K (tDGet (tVar i) tk) δ (.int n) := fun H0 F H σ S Q q => by
  have key : ∃ a, σ[i]? = some (some (.ref a)) ∧ H a = some (.dT (encD kvs)) := by
    rcases h with h | h
    · obtain ⟨v, h1, a, rfl, h2⟩ := S.has i _ h
      exact ⟨a, h1, S.all _ _ h2⟩
    · obtain ⟨v, h1, a, rfl, _, h2, _⟩ := S.has i _ h
      exact ⟨a, h1, h2⟩
  obtain ⟨a, h1, h2⟩ := key
  refine ⟨_, h1, hk H0 F H σ S _ fun b H2 e2 hb => ?_⟩
  have g := DGet.t (e2 _ _ h2) hb
  rw [valV_enc, hn] at g
  exact ⟨a, .int n, rfl, g, q _ H2 e2 (.int n)⟩
/-- d[k] = v -/
theorem run_put {i : Nat} {ad : Option Addr} {kvs : Kvs} {k : Int × Int} {n : Int} (h : δ[i]? = some (some (.m ad kvs))) (hv : EvD K tv δ (.int n)) (hk : EvK K tk δ k) (hl : kvs.length < 1000000) (q : P.nx (δ.set i (some (.m ad (putD kvs k n))))) : Run K (sDPut (tVar i) tk tv) δ P := fun H0 F H σ D S G => by
  obtain ⟨v, h1, a, rfl, h0, h2, had⟩ := S.has i _ h
  refine hv H0 F H σ S _ fun w H2 e2 t2 => ⟨_, h1, hk H0 F H2 σ (S.mono e2) _ fun b H3 e3 hb => ?_⟩
  have e := e2.trans e3
  have ha := e _ _ h2
  refine ⟨a, _, rfl, DPut.t ha hb (by unfold encD; rw [List.length_map]; exact szl hl), G.nx _ _ _ q ?_⟩
  rw [t2.int_inv, put_enc]
  exact (S.mono e).put h rfl h1 rfl ⟨a, rfl, h0, upd_same, had⟩
/-- x = {} -/
theorem run_asgM0 {i : Nat} (q : P.nx (δ.set i (some (.m none [])))) : Run K (tAsg tDNewT (gName i)) δ P := fun H0 F H σ D S G p hp =>
  G.nx _ _ _ q (S.setN (e := .m none []) (Ex.new hp) hp ⟨p, rfl, fresh_back S.ex hp, upd_same, fun x z => by cases z⟩)
/-- what evaluates within a dict display: the new dict is no one's yet -/
theorem run_asgM1 {i : Nat} {k : Int × Int} {n : Int} (hk : EvK K tk δ k) (hv : EvD K tv δ (.int n)) (q : P.nx (δ.set i (some (.m none [(k, n)])))) : Run K (tAsg (tDisp1 tk tv) (gName i)) δ P := fun H0 F H σ D S G p hp => by
  have e0 : Ex H (upd H p (.dT [])) := Ex.new hp
  refine hk H0 F _ σ (S.mono e0) _ fun b H1 e1 hb => hv H0 F H1 σ ((S.mono e0).mono e1) _ fun w H2 e2 t2 => ?_
  have hp2 : H2 p = some (.dT []) := e2 _ _ (e1 _ _ upd_same)
  refine ⟨hp2, b, encK k, rfl, e2 _ _ hb, ?_⟩
  rw [t2.int_inv]
  have e3 : Ex H (upd H2 p (.dT [(encK k, V.int n)])) := ((e0.trans e1).trans e2).mut hp
  exact G.nx _ _ _ q (S.setN (e := .m none [(k, n)]) e3 hp ⟨p, rfl, fresh_back S.ex hp, upd_same, fun x z => by cases z⟩)
/-! written dicts of texts -/
def kvT (kvs : List (Str × Str)) : List (L2.Key × V) := kvs.map fun p => (Sum.inr p.1, V.str p.2)
theorem disp2 {a b c d : Str} {H : Hp} {σ : L2.St} {Q : VK} (q : ∀ p H2, H p = none → Ex H H2 → H2 p = some (.dK (mergeK [] (kvT [(a, b), (c, d)]))) → Q (.ref p) H2) :
    tDisp [(tC (.str a), tC (.str b)), (tC (.str c), tC (.str d))] σ H Q := fun p hp => ⟨upd_same, kvT [(a, b), (c, d)], rfl, (by show 2 ≤ 15; decide), q p _ hp ((Ex.new hp).mut hp) upd_same⟩
theorem disp4 {a b c d a' b' c' d' : Str} {H : Hp} {σ : L2.St} {Q : VK} (q : ∀ p H2, H p = none → Ex H H2 → H2 p = some (.dK (mergeK [] (kvT [(a, b), (c, d), (a', b'), (c', d')]))) → Q (.ref p) H2) :
    tDisp [(tC (.str a), tC (.str b)), (tC (.str c), tC (.str d)), (tC (.str a'), tC (.str b')), (tC (.str c'), tC (.str d'))] σ H Q := fun p hp => ⟨upd_same, kvT [(a, b), (c, d), (a', b'), (c', d')], rfl, (by show 4 ≤ 15; decide), q p _ hp ((Ex.new hp).mut hp) upd_same⟩
theorem ed_disp2 {a b c d s r : Str} (hk : EvD K tk δ (.str s)) (hr : valV (mergeK [] (kvT [(a, b), (c, d)])) (Sum.inr s) = some (V.str r)) :
    EvD K (tDGet (tDisp [(tC (.str a), tC (.str b)), (tC (.str c), tC (.str d))]) tk) δ (.str r) := fun H0 F H σ S Q q =>
  disp2 fun p H2 hp e2 h2 => hk H0 F H2 σ (S.mono e2) _ fun v H3 e3 t3 => by
    rw [t3.str_inv]
    have g := DGet.k (k := Sum.inr s) (e3 _ _ h2)
    rw [hr] at g
    exact ⟨p, _, rfl, g, q _ H3 (e2.trans e3) (.str r)⟩
theorem ed_disp4 {a b c d a' b' c' d' s s2 r : Str} (hk : EvD K tk δ (.str s)) (hv : EvD K tv δ (.str s2)) (hr : (valV (mergeK [] (kvT [(a, b), (c, d), (a', b'), (c', d')])) (Sum.inr s)).getD (V.str s2) = V.str r) :
    EvD K (tDGet2 (tDisp [(tC (.str a), tC (.str b)), (tC (.str c), tC (.str d)), (tC (.str a'), tC (.str b')), (tC (.str c'), tC (.str d'))]) tk tv) δ (.str r) := fun H0 F H σ S Q q =>
  disp4 fun p H2 hp e2 h2 => ⟨p, rfl, .inl ⟨_, .inl h2⟩, hk H0 F H2 σ (S.mono e2) _ fun v H3 e3 t3 => hv H0 F H3 σ (S.mono (e2.trans e3)) _ fun w H4 e4 t4 => by
    rw [t3.str_inv, t4.str_inv]
    refine ⟨_, DGet.k (k := Sum.inr s) (e4 _ _ (e3 _ _ h2)), ?_⟩
    rw [hr]
    exact q _ H4 ((e2.trans e3).trans e4) (.str r)⟩
/-! the other rules of ours -/
theorem rv_repA {k : Int} (hne : ds ≠ []) (h0 : 0 ≤ k) (h1 : k ≤ 1000) (hl : ds.length ≤ 1000) : Rv K (rRepA K) (.tuple ds) (.int k) (.tuple (List.replicate k.toNat ds).flatten) := fun H u v t1 t2 Q q => by
  obtain ⟨a, xs, rfl, h2, h3⟩ := t1.tup_inv
  have hx : xs ≠ [] := fun e => hne (by
    have z := h3.len
    rw [e] at z
    exact List.eq_nil_of_length_eq_zero z.symm)
  have rep : ∀ n : Nat, Tds K H (List.replicate n xs).flatten (List.replicate n ds).flatten := by
    intro n
    induction n with
    | zero => exact .nil
    | succ n ih =>
      rw [List.replicate_succ, List.flatten_cons, List.replicate_succ, List.flatten_cons]
      exact Tds.app h3 ih
  refine ⟨a, k, xs, rfl, t2.int_inv, h2, hx, h0, h1, by rw [h3.len]; exact hl, fun e => ?_, fun _ p hp => ?_⟩
  · refine q _ H (Ex.refl H) (.tup h2 ?_)
    subst e
    have z : (List.replicate (Int.toNat 1) ds).flatten = ds := by
      show (List.replicate 1 ds).flatten = ds
      rw [List.replicate_succ, List.flatten_cons]
      show ds ++ [] = ds
      rw [List.append_nil]
    rw [z]
    exact h3
  · exact q _ _ (Ex.new hp) (.tup (SqT.of upd_same) ((rep _).ex (Ex.new hp)))
def rDivN : List V → Hp → VK → Prop := fun xs H Q => ∃ i j, xs = [.int i, .int j] ∧ CDivN i j ∧ ∀ p, H p = none → Q (.ref p) (upd H p (.tup [.int (i.fdiv j), .int (i.fmod j)]))
theorem ed_divN {i j : Int} (h1 : EvD K ta δ (.int i)) (h2 : EvD K tb δ (.int j)) (hc : CDivN i j) : EvD K (tCB rDivN (tCons ta (tCons tb tNil))) δ (.tuple [.int (i.fdiv j), .int (i.fmod j)]) := fun H0 F H σ S Q q =>
  h1 H0 F H σ S _ fun u H2 e2 t2 => h2 H0 F H2 σ (S.mono e2) _ fun v H3 e3 t3 => by
    rw [t2.int_inv, t3.int_inv]
    exact ⟨i, j, rfl, hc, fun p hp => q _ _ ((e2.trans e3).trans (Ex.new hp)) (.tup (SqT.of upd_same) (.cons (.int _) (.cons (.int _) .nil)))⟩
theorem rv_ltO {a c : Str} {i j : Int} : Rv K (rLtO K) (.tuple [.str a, .int i]) (.tuple [.str c, .int j]) (.bool (ltO a i c j)) := fun H u v t1 t2 Q q => by
  obtain ⟨p, xs, rfl, h1, h2⟩ := t1.tup_inv
  obtain ⟨p', ys, rfl, h3, h4⟩ := t2.tup_inv
  cases h2 with
  | cons a1 h2 =>
    cases h2 with
    | cons a2 h2 =>
      cases h2
      cases h4 with
      | cons b1 h4 =>
        cases h4 with
        | cons b2 h4 =>
          cases h4
          rw [a1.str_inv, a2.int_inv] at h1
          rw [b1.str_inv, b2.int_inv] at h3
          exact ⟨p, p', a, i, c, j, rfl, rfl, h1, h3, fun _ _ => .inr trivial, q _ H (Ex.refl H) (.bl _)⟩
/-- x in xs, a list of data of any form -/
theorem ed_notInD (ha : EvD K ta δ x) (hb : EvR K tb δ ds) (h1 : SeqAt.shaped x = true) (h2 : SeqAt.shaped (.list ds) = true) : EvD K (tOp (rNotInD K) ta tb) δ (.bool (!ds.any fun z => PyData.eqv z x)) := fun H0 F H σ S Q q =>
  ha H0 F H σ S _ fun u H2 e2 t2 => hb H0 F H2 σ (S.mono e2) _ fun p xs H3 e3 h3 t3 =>
    ⟨x, ds, (t2.ex e3).dp, .lst h3 t3.dp, h1, h2, q _ H3 (e2.trans e3) (.bl _)⟩
/-- isinstance(x, str) of an int, a text -/
def isS : PyData → Bool
  | .str _ => true
  | _ => false
theorem ed_isS (ha : EvD K ta δ x) (hx : (∃ i, x = .int i) ∨ ∃ s, x = .str s) : EvD K (tCB (rIsi K) (tCons ta (tCons (tC (.ty "str")) tNil))) δ (.bool (isS x)) := fun H0 F H σ S Q q =>
  ha H0 F H σ S _ fun u H2 e2 t2 => by
    rcases hx with ⟨i, rfl⟩ | ⟨s, rfl⟩
    · rw [t2.int_inv]
      exact ⟨_, _, _, _, false, rfl, .ty "str", .base (.int i), kit_ty (by decide +kernel), q _ H2 e2 (.bl _)⟩
    · rw [t2.str_inv]
      exact ⟨_, _, _, _, true, rfl, .ty "str", .base (.str s), kit_ty (by decide +kernel), q _ H2 e2 (.bl _)⟩
/-- sorted(d) -/
theorem en_sortD {i : Nat} {ad : Option Addr} {kvs : Kvs} (h : δ[i]? = some (some (.m ad kvs))) : EvN K (tCB rSortD (tCons (tVar i) tNil)) δ ((sortK (kvs.map (·.1))).map encP) := fun H0 F H σ S Q q => by
  obtain ⟨v, h1, a, rfl, h0, h2, _⟩ := S.has i _ h
  refine ⟨_, h1, a, kvs, rfl, h2, fun p ys hy hp => q p ys _ hp (Ex.new hp) upd_same ?_⟩
  have key : ∀ {ys : List V} {ks : List (Int × Int)}, Paired (fun v k => ∃ b, v = V.ref b ∧ H b = some (.tup ((encK k).map kV))) ys ks → Tds K H ys (ks.map encP) := by
    intro ys ks r
    induction r with
    | nil => exact .nil
    | cons z t ih =>
      obtain ⟨b, rfl, hb⟩ := z
      exact .cons (.tup (SqT.of hb) (.cons (.int _) (.cons (.int _) .nil))) ih
  exact (key hy).ex (Ex.new hp)
/-- xs[lo:hi] of a list -/
theorem en_slL {tl th : TO} {lo hi : Option Int} (h : EvR K te δ ds) (h1 : EvP K tl δ lo) (h2 : EvP K th δ hi) : EvN K (tSl (rSlL K) te tl th) δ (cutD ds lo hi) := fun H0 F H σ S Q q =>
  h H0 F H σ S _ fun p xs H2 e2 hp t2 => h1 H0 F H2 σ (S.mono e2) _ fun H3 e3 => h2 H0 F H3 σ (S.mono (e2.trans e3)) _ fun H4 e4 => by
    have e34 := e3.trans e4
    refine ⟨p, xs, rfl, ex_l e34 hp, fun l hl => q l _ _ (fresh_back (e2.trans e34) hl) ((e2.trans e34).trans (Ex.new hl)) upd_same ?_⟩
    have cu : Tds K H4 (cutV xs lo hi) (cutD ds lo hi) := by
      unfold cutV cutD
      rw [t2.len]
      exact ((t2.ex e34).drop _).take _
    exact cu.ex (Ex.new hl)
/-! the same, operands first -/
theorem ed_I0 {f : Int → Int → Int} {i j : Int} (ha : EvD K ta δ (.int i)) (hb : EvD K tb δ (.int j)) : EvD K (tOp (rI0 fun i j => .int (f i j)) ta tb) δ (.int (f i j)) := ed_op ha hb rv_I0
theorem ed_B0 {f : Int → Int → Bool} {i j : Int} (ha : EvD K ta δ (.int i)) (hb : EvD K tb δ (.int j)) : EvD K (tOp (rI0 fun i j => .bl (f i j)) ta tb) δ (.bool (f i j)) := ed_op ha hb rv_B0
theorem ed_I {C : Int → Int → Prop} {f : Int → Int → Int} {i j : Int} (ha : EvD K ta δ (.int i)) (hb : EvD K tb δ (.int j)) (hc : C i j) : EvD K (tOp (rI C fun i j => .int (f i j)) ta tb) δ (.int (f i j)) := ed_op ha hb (rv_I hc)
theorem ed_ixV {i : Int} (ha : EvD K ta δ (.tuple ds)) (hb : EvD K tb δ (.int i)) (h : atI ds i = some z) : EvD K (tOp (rIxT K) ta tb) δ z := ed_op ha hb (rv_ixT h)
theorem ed_inT {neg : Bool} (ha : EvD K ta δ x) (hb : EvD K tb δ (.tuple ds)) (hx : flat x = true) (hd : ds.all flat = true) : EvD K (tOp (rIn K neg) ta tb) δ (.bool (if neg then !inD x ds else inD x ds)) := ed_op ha hb (rv_inT hx hd)
theorem ed_eqD (ha : EvD K ta δ x) (hb : EvD K tb δ y) (h1 : SeqAt.shaped x = true) (h2 : SeqAt.shaped y = true) : EvD K (tOp (rEqD K) ta tb) δ (.bool (PyData.eqv x y)) := ed_op ha hb (rv_eqD h1 h2)
theorem ed_neD (ha : EvD K ta δ x) (hb : EvD K tb δ y) (h1 : SeqAt.shaped x = true) (h2 : SeqAt.shaped y = true) : EvD K (tOp (rNeD K) ta tb) δ (.bool (!PyData.eqv x y)) := ed_op ha hb (rv_neD h1 h2)
theorem ed_catT (ha : EvD K ta δ (.tuple ds)) (hb : EvD K tb δ (.tuple es)) (hl : ds.length + es.length ≤ 1000000) : EvD K (tOp (rCatA K) ta tb) δ (.tuple (ds ++ es)) := ed_op ha hb (rv_catT hl)
theorem ed_repA {k : Int} (ha : EvD K ta δ (.tuple ds)) (hb : EvD K tb δ (.int k)) (hne : ds ≠ []) (h0 : 0 ≤ k) (h1 : k ≤ 1000) (hl : ds.length ≤ 1000) : EvD K (tOp (rRepA K) ta tb) δ (.tuple (List.replicate k.toNat ds).flatten) := ed_op ha hb (rv_repA hne h0 h1 hl)
theorem ed_isT (ha : EvD K ta δ x) (hb : EvD K tb δ (.tuple ds)) (hx : flat x = true) (hd : ds.all flat = true) : EvD K (tOp (rIn K false) ta tb) δ (.bool (inD x ds)) := ed_inT ha hb hx hd
theorem ed_niT (ha : EvD K ta δ x) (hb : EvD K tb δ (.tuple ds)) (hx : flat x = true) (hd : ds.all flat = true) : EvD K (tOp (rIn K true) ta tb) δ (.bool (!inD x ds)) := ed_inT ha hb hx hd
theorem ed_isL (ha : EvD K ta δ x) (hb : EvR K tb δ ds) (hx : flat x = true) (hd : ds.all flat = true) : EvD K (tOp (rIn K false) ta tb) δ (.bool (inD x ds)) := ed_inL ha hb hx hd
theorem ed_niL (ha : EvD K ta δ x) (hb : EvR K tb δ ds) (hx : flat x = true) (hd : ds.all flat = true) : EvD K (tOp (rIn K true) ta tb) δ (.bool (!inD x ds)) := ed_inL ha hb hx hd
theorem eb_andF {tt tu : TT} {a : Bool} (h1 : EvB K tt δ a) (ha : a = false) : EvB K (tAnd tt tu) δ false := by
  subst ha
  exact fun H0 F H σ S Q q => h1 H0 F H σ S _ fun H2 e2 => q H2 e2
theorem eb_orT {tt tu : TT} {a : Bool} (h1 : EvB K tt δ a) (ha : a = true) : EvB K (tOr tt tu) δ true := by
  subst ha
  exact fun H0 F H σ S Q q => h1 H0 F H σ S _ fun H2 e2 => q H2 e2
theorem ed_andF {a : Bool} (h1 : EvD K ta δ (.bool a)) (ha : a = false) : EvD K (tAndV ta tb) δ (.bool false) := by
  subst ha
  exact fun H0 F H σ S Q q => h1 H0 F H σ S _ fun v H2 e2 t2 => ⟨false, t2.bl_inv, q _ H2 e2 (.bl _)⟩
theorem ed_orT {a : Bool} (h1 : EvD K ta δ (.bool a)) (ha : a = true) : EvD K (tOrV ta tb) δ (.bool true) := by
  subst ha
  exact fun H0 F H σ S Q q => h1 H0 F H σ S _ fun v H2 e2 t2 => ⟨true, t2.bl_inv, q _ H2 e2 (.bl _)⟩
theorem en_lstB {ta : TA} (h : EvAd K ta δ ds) (hl : Nat.ble ds.length 1000000 = true) : EvN K (tLst ta) δ ds := en_lst h (Nat.le_of_ble_eq_true hl)
theorem ed_tupB {ta : TA} (h : EvAd K ta δ ds) (hl : Nat.ble ds.length 1000000 = true) : EvD K (tTup ta) δ (.tuple ds) := ed_tup h (Nat.le_of_ble_eq_true hl)
/-- a, b = a pair -/
theorem run_asgT2 {i j n : Nat} (h : EvD K te δ (.tuple [x, y])) (hn : n = 2) (k : P.nx ((δ.set i (some (.d x))).set j (some (.d y)))) : Run K (tAsg te (gTup K n (gCons (gName i) (gCons (gName j) gNil)))) δ P := by
  subst hn
  exact run_asgT (is := [i, j]) h rfl rfl k
/-! ### a def -/
def env0 (n : Nat) (es : List Ent) : Env := es.map some ++ List.replicate (n - es.length) none
def PRet (r : Ent → Prop) : Post := ⟨fun _ => False, r, fun _ => False, fun _ => False⟩
theorem har_len {H : Hp} : ∀ {vs : List V} {es : List Ent}, Har K H vs es → vs.length = es.length
  | _, _, .nil => rfl
  | _, _, .cons _ _ t => by rw [List.length_cons, List.length_cons, har_len t]
theorem har_get {H : Hp} : ∀ {vs : List V} {es : List Ent} {i : Nat} {e : Ent}, Har K H vs es → es[i]? = some e → ∃ v, vs[i]? = some v ∧ Holds K H H H e v ∧ e.own = false
  | _, _, _, _, .nil, h => by simp at h
  | _, _, 0, _, .cons h o _, q => by
    simp at q
    subst q
    exact ⟨_, rfl, h, o⟩
  | _, _, i + 1, e, .cons _ _ t, q => by
    obtain ⟨v, h1, h2⟩ := har_get (i := i) (e := e) t (by simpa using q)
    exact ⟨v, by simpa using h1, h2⟩
theorem env0_at {n i : Nat} {es : List Ent} {e : Ent} (h : (env0 n es)[i]? = some (some e)) : es[i]? = some e := by
  unfold env0 at h
  rw [List.getElem?_append] at h
  split at h
  · rw [List.getElem?_map] at h
    cases q : es[i]? with
    | none => rw [q] at h; cases h
    | some a => rw [q] at h; cases h; rfl
  · rw [List.getElem?_replicate] at h
    split at h <;> cases h
theorem body_ok {N : List Str} {vs : List V} {es : List Ent} {H : Hp} {Q : VK} {R : Ent → Prop} (hr : Run K t (env0 N.length es) (PRet R)) (ha : Har K H vs es) (q : ∀ r v H', R r → Ex H H' → Holds K H H H' r v → Q v H') :
    t { nx := fun _ H' => Q .non H', rt := Q } (L2.start N vs) H := by
  refine hr H H H _ _ ⟨Ex.refl H, Ex.refl H, ?_, fun i e h => ?_, fun i j e e' hij h1 h2 o1 _ => ?_⟩ ⟨fun _ _ _ z _ => z.elim, fun r v H' hr e h => q r v H' hr e ?_, fun _ _ _ z _ => z.elim, fun _ _ _ z _ => z.elim⟩
  · unfold L2.start env0
    rw [List.length_append, List.length_append, List.length_map, List.length_map, List.length_replicate, List.length_replicate, har_len ha]
  · obtain ⟨v, h1, h2, _⟩ := har_get ha (env0_at h)
    refine ⟨v, ?_, h2⟩
    unfold L2.start
    have hl : i < vs.length := (List.getElem?_eq_some_iff.mp h1).1
    rw [List.getElem?_append_left (by rw [List.length_map]; exact hl), List.getElem?_map, h1]
    rfl
  · obtain ⟨v, _, _, z⟩ := har_get ha (env0_at h1)
    rw [z] at o1
    cases o1
  · exact h
end
end Fkh
namespace Fkh
open PySem PySem.Spec PyProof.Rows L2 Evl
def top (i : Nat) : Stmt := PySem.Challenge.pw_fakehunt_k43_whole_papers_hold.main.body.getD i (.Pass ⟨0, 0, 0, 0⟩)
def nought : PyData := .tuple [.str "number", .int 0]
def oneD : PyData := .tuple [.str "number", .int 1]
/-- the module's names -/
structure Gs (K : Fg) (mg : Str → Option Value) (aN aO : Addr) (tR : Tok) : Prop where
  reach : mg "REACH" = some (.int 1000000000 tR)
  nought : mg "NOUGHT" = some (.ref aN)
  one : mg "ONE" = some (.ref aO)
  tN : ∀ H, Td K H (.ref aN) Fkh.nought
  tO : ∀ H, Td K H (.ref aO) Fkh.oneD
  len : mg "len" = none
  range : mg "range" = none
  list : mg "list" = none
  tuple : mg "tuple" = none
  zip : mg "zip" = none
  sorted : mg "sorted" = none
  isi : mg "isinstance" = none
  divmod : mg "divmod" = none
  str : mg "str" = none
abbrev FunP (K : Fg) (x : Str) (st : Stmt) (f : Addr) (fd : FuncData) : Prop := FunD K x x (defArgs st) (defBody st) (defScope st) [] [] f fd
/-- the def x keeps sp, by k calls at most -/
structure Df (P : Program) (w : World) (K : Fg) (mg : Str → Option Value) (base : Heap) (x : Str) (k : Nat) (ps : List Str) (sp : Sp) : Prop where
  ex : ∃ f fd, mg x = some (.ref f) ∧ FnOk P w K mg base CX0 k f fd ps sp ∧ PySem.W.keepIn K (.ref f) = true ∧ Binds K fd ps []
theorem pe_df {X : Cx} {x : Str} {k : Nat} {ps : List Str} {sp : Sp} {e : Expr} {es : List Expr} {p pos : Pos} {t : TA} (D : Df X.prog X.w X.K X.mg X.base x k ps sp) (hr : Room k X.A) (hg : Gl X x) (ha : PA X (e :: es) t)
    (hdb : (x == ("__debug__" : Str)) = false := by decide) (he : starEach (e :: es) X.env = (false, eval e X.env) :: starEach es X.env := by rfl) (hpl : (backTo pos (starEach es X.env)).any (·.1) = false := by rfl) : PE X (.Call (.Name x p) (e :: es) [] pos) (tCall sp [] E0 t) := by
  obtain ⟨f, fd, hm, G, kp, b⟩ := D.ex
  exact pe_call G hr hg hm kp b .nil pass0 ha hdb he hpl
theorem hu10 {A : Around} {k : Nat} (hr : Room k A) : A.units + 10 < cLine := by
  have := hr.un
  omega
theorem hu65 {A : Around} {k : Nat} (hr : Room k A) : A.units + 65 < cLine := by
  have := hr.un
  omega
section
variable {X : Cx}
theorem op_isN1 : OpR X (compareOp .Is) rIsN := op_isN
theorem call_len1 : CallR X (.builtin "len") (rLenS X.K) := call_len_seq
theorem call_list1 : CallR X (.type "list") (rListOf X.K) := call_list_of
theorem call_tup1 : CallR X (.type "tuple") (rTupOf X.K) := call_tuple_of
theorem call_div1 : CallR X (.builtin "divmod") rDivN := call_divmodN
end
/-- a def, put in: its body as a term of rules, and what that does -/
theorem df_mk {P : Program} {w : World} {K : Fg} {mg : Str → Option Value} {base : Heap} {x : Str} {st : Stmt} {N ps : List Str} {k : Nat} {F : List Ent → Ent → Prop} (D : ∃ f fd, mg x = some (.ref f) ∧ FunP K x st f fd) (S : FnScope N ps (defScope st))
    (hb : ∀ (kV doc pm : Value) (an : Option Addr) (cdv ct : Value) (us : List Value), us.length = ps.length → bindArgs (PySem.W.fnOf x x (defArgs st) (defBody st) (defScope st) .none kV doc pm an cdv ct) ⟨us, []⟩ = pure (ps.zip us)) (len : ∀ es r, F es r → es.length = ps.length)
    (hbody : ∀ (f : Addr) (cdv : Value) (A : Around) (outer : List PySem.Env) (s : Shared) (H : Hp) (E : XK), Room k (A.deeper (envOfC x (defScope st) s.heap.objs.size f cdv)) → ∀ es r, F es r →
      ∃ t, PSs (cxOf CX0 P w K mg base N x (defScope st) f cdv A outer s H E).nox (defBody st) t ∧ Run K t (env0 N.length es) (PRet (· = r))) : Df P w K mg base x (k + 1) ps (spF K F) := by
  obtain ⟨f, fd, hm, D⟩ := D
  refine ⟨f, fd, hm, D.ok S (fun vs H Q E h => ?_) (fun cdv A outer s H vs Q E hr h => ?_), D.kp, D.bindsN hb⟩
  · obtain ⟨es, r, ha, hF, _⟩ := h
    rw [har_len ha, len es r hF]
  · obtain ⟨es, r, ha, hF, q⟩ := h
    obtain ⟨t, h1, h2⟩ := hbody f cdv A outer s H E hr es r hF
    refine ⟨t, h1.nox, body_ok h2 ha fun r' v H' e x h => ?_⟩
    subst e
    exact q v H' x h
/-- a promise whose answer is told by what is true of it -/
def spG (K : Fg) (F : List Ent → (Ent → Prop) → Prop) : Sp := fun vs H Q _ => ∃ es R, Har K H vs es ∧ F es R ∧ ∀ r v H', R r → Ex H H' → Holds K H H H' r v → Q v H'
theorem df_mkG {P : Program} {w : World} {K : Fg} {mg : Str → Option Value} {base : Heap} {x : Str} {st : Stmt} {N ps : List Str} {k : Nat} {F : List Ent → (Ent → Prop) → Prop} (D : ∃ f fd, mg x = some (.ref f) ∧ FunP K x st f fd) (S : FnScope N ps (defScope st))
    (hb : ∀ (kV doc pm : Value) (an : Option Addr) (cdv ct : Value) (us : List Value), us.length = ps.length → bindArgs (PySem.W.fnOf x x (defArgs st) (defBody st) (defScope st) .none kV doc pm an cdv ct) ⟨us, []⟩ = pure (ps.zip us)) (len : ∀ es r, F es r → es.length = ps.length)
    (hbody : ∀ (f : Addr) (cdv : Value) (A : Around) (outer : List PySem.Env) (s : Shared) (H : Hp) (E : XK), Room k (A.deeper (envOfC x (defScope st) s.heap.objs.size f cdv)) → ∀ es r, F es r →
      ∃ t, PSs (cxOf CX0 P w K mg base N x (defScope st) f cdv A outer s H E).nox (defBody st) t ∧ Run K t (env0 N.length es) (PRet r)) : Df P w K mg base x (k + 1) ps (spG K F) := by
  obtain ⟨f, fd, hm, D⟩ := D
  refine ⟨f, fd, hm, D.ok S (fun vs H Q E h => ?_) (fun cdv A outer s H vs Q E hr h => ?_), D.kp, D.bindsN hb⟩
  · obtain ⟨es, r, ha, hF, _⟩ := h
    rw [har_len ha, len es r hF]
  · obtain ⟨es, r, ha, hF, q⟩ := h
    obtain ⟨t, h1, h2⟩ := hbody f cdv A outer s H E hr es r hF
    exact ⟨t, h1.nox, body_ok h2 ha fun r' v H' e x h => q r' v H' e x h⟩
/-- x = f(..), f such a def, its answer data -/
theorem run_callG {K : Fg} {δ : Env} {P : Post} {F : List Ent → (Ent → Prop) → Prop} {E : XK} {ta : TA} {es : List Ent} {R : Ent → Prop} {i : Nat} (h : EvA K ta δ es) (hF : F es R) (k : ∀ r, R r → ∃ x, r = .d x ∧ P.nx (δ.set i (some (.d x)))) :
    Run K (tAsg (tCall (spG K F) [] E ta) (gName i)) δ P := fun H0 F0 H σ D S G =>
  h H0 F0 H σ S _ fun vs H2 e2 t2 => ⟨es, R, by rw [List.append_nil]; exact t2, hF, fun r v H3 hr e3 t3 => by
    obtain ⟨x, rfl, hk⟩ := k r hr
    exact G.nx _ _ _ hk (((S.mono e2).mono e3).setD (e := .d x) t3 rfl)⟩
end Fkh
/-! the program's and the law's defs as plain functions -/
namespace Fkh
open PySem L2
/-! ### programs -/
inductive Opd | name (i : Nat) | num (c : Int)
  deriving DecidableEq
inductive Sgn | add | sub | mul | div | mod
  deriving DecidableEq
inductive Cmp | lt | le | eq | ge | gt | ne
  deriving DecidableEq
inductive Rw | put (x : Nat) (y : Opd) (s : Sgn) (z : Opd) | cond (y : Opd) (s : Cmp) (z : Opd) (t : Nat) | go (t : Nat) | tell (y : Opd) | skip
  deriving DecidableEq
def Opd.tag : Opd → Str
  | .name _ => "name"
  | .num _ => "number"
def Opd.val : Opd → Int
  | .name i => (i : Int)
  | .num c => c
def Opd.isNum : Opd → Bool
  | .name _ => false
  | .num _ => true
def Sgn.str : Sgn → Str
  | .add => "+"
  | .sub => "-"
  | .mul => "*"
  | .div => "/"
  | .mod => "mod"
def Cmp.str : Cmp → Str
  | .lt => "<"
  | .le => "<="
  | .eq => "="
  | .ge => ">="
  | .gt => ">"
  | .ne => "!="
def Opd.enc (y : Opd) : PyData := .tuple [.str y.tag, .int y.val]
def Rw.tag : Rw → Str
  | .put _ _ _ _ => "put"
  | .cond _ _ _ _ => "if"
  | .go _ => "go"
  | .tell _ => "tell"
  | .skip => "skip"
def Rw.args : Rw → List PyData
  | .put x y s z => [.int (x : Int), y.enc, .str s.str, z.enc]
  | .cond y s z t => [y.enc, .str s.str, z.enc, .int (t : Int)]
  | .go t => [.int (t : Int)]
  | .tell y => [y.enc]
  | .skip => []
def Rw.enc (r : Rw) : PyData := .tuple (.str r.tag :: r.args)
theorem atI_cons0 {α : Type} {d : α} {ds : List α} : atI (d :: ds) 0 = some d := atI_nat (j := 0) rfl
def Opd.lt (a b : Opd) : Bool := ltO a.tag a.val b.tag b.val
theorem rv_ltOpd {K : Fg} {a b : Opd} : Rv K (rLtO K) a.enc b.enc (.bool (a.lt b)) := rv_ltO
def around (n : Int) : Int := (n + 1000000000) % 2000000000 - 1000000000
def reckon (a : Int) (s : Sgn) (b : Int) : Int := match s with
  | .add => around (a + b)
  | .sub => around (a - b)
  | .mul => around (a * b)
  | .div => if b = 0 then 0 else around (a.fdiv b)
  | .mod => if b = 0 then a else a.fmod b
def isSo (a : Int) (s : Cmp) (b : Int) : Bool := match s with
  | .lt => decide (a < b)
  | .le => decide (a ≤ b)
  | .eq => decide (a = b)
  | .ge => decide (b ≤ a)
  | .gt => decide (b < a)
  | .ne => !decide (a = b)
/-! ### made rows -/
def comesNought (y : Opd) (s : Sgn) (z : Opd) : Bool := match s with
  | .mul => decide (z = .num 0)
  | .mod => decide (z = .num 1)
  | .sub => decide (y = z)
  | _ => false
def madePut4 (x : Nat) (y : Opd) (s : Sgn) (z : Opd) : Rw := if (decide (y = .name x) && (decide (s = .add) && decide (z = .num 0))) = true then .skip else .put x y s z
def madePut3 (x : Nat) (y : Opd) (s : Sgn) (z : Opd) : Rw :=
  if comesNought y s z = true then .put x (.num 0) .add (.num 0)
  else if ((decide (s = .mul) || decide (s = .div)) && decide (z = .num 1)) = true then madePut4 x y .add (.num 0) else madePut4 x y s z
def madePut2 (x : Nat) (y : Opd) (s : Sgn) (z : Opd) : Rw := if ((decide (s = .add) || decide (s = .mul)) && z.lt y) = true then madePut3 x z s y else madePut3 x y s z
def madePut (x : Nat) (y : Opd) (s : Sgn) (z : Opd) : Rw :=
  if (y.isNum && z.isNum) = true then .put x (.num (reckon y.val s z.val)) .add (.num 0)
  else if (decide (s = .sub) && z.isNum) = true then madePut2 x y .add (.num (around (0 - z.val))) else madePut2 x y s z
def lessThan (y z : Opd) (t : Nat) : Rw :=
  if (z.isNum && decide (z.val < 999999999)) = true then .cond y .lt (.num (z.val + 1)) t
  else if (y.isNum && decide (-1000000000 < y.val)) = true then .cond (.num (y.val - 1)) .lt z t
  else .cond y .le z t
def flip1 : Cmp → Cmp
  | .gt => .lt
  | .ge => .le
  | s => s
def madeIf3 (y : Opd) (s : Cmp) (z : Opd) (t : Nat) : Rw := if s = .le then lessThan y z t else .cond y s z t
def madeIf2 (y : Opd) (s : Cmp) (z : Opd) (t : Nat) : Rw :=
  if (decide (y = z) || (y.isNum && z.isNum)) = true then (if isSo y.val s z.val = true then .go t else .skip)
  else if ((decide (s = .eq) || decide (s = .ne)) && z.lt y) = true then madeIf3 z s y t else madeIf3 y s z t
def madeIf (y : Opd) (s : Cmp) (z : Opd) (t : Nat) : Rw := if (decide (s = .gt) || decide (s = .ge)) = true then madeIf2 z (flip1 s) y t else madeIf2 y s z t
def madeRow (r : Rw) (k : Nat) : Rw := match r with
  | .put x y s z => madePut x y s z
  | .cond y s z t => if t = k + 1 then .skip else madeIf y s z t
  | .go t => if t = k + 1 then .skip else .go t
  | .tell y => .tell y
  | .skip => .skip
/-! ### pairs -/
/-- taken numbers from lo to hi, so many names, the rows -/
structure Prog where
  taken : Nat
  lo : Int
  hi : Int
  many : Nat
  rows : List Rw
def Prog.takes (p : Prog) : List PyData := List.replicate p.taken (.tuple [.int p.lo, .int p.hi])
def Prog.enc (p : Prog) : PyData := .tuple [.tuple p.takes, .int (p.many : Int), .tuple (p.rows.map Rw.enc)]
def rowAt (p : Prog) (k : Nat) : Option Rw := (p.rows[k]?).map fun r => madeRow r k
def encO : Option Rw → PyData
  | none => .none
  | some r => r.enc
def agrees (y : Opd) (bits : Nat) : Bool := match y with
  | .num _ => true
  | .name i => bits.testBit i
def Rw.isPut : Rw → Bool
  | .put _ _ _ _ => true
  | _ => false
def Rw.isCond : Rw → Bool
  | .cond _ _ _ _ => true
  | _ => false
def Rw.isTell : Rw → Bool
  | .tell _ => true
  | _ => false
def isStop : Option Rw → Bool
  | none => true
  | some r => r.isTell
def endAlike (h t : Option Rw) (bits : Nat) : Bool := match h, t with
  | none, none => true
  | some (.tell y), some (.tell z) => decide (y = z) && agrees y bits
  | _, _ => false
def sameChoice (h t : Rw) (bits : Nat) : Bool := match h, t with
  | .cond y s z _, .cond y' s' z' _ => if (y ≠ y' ∨ s ≠ s' ∨ z ≠ z') then false else (agrees y bits && agrees z bits)
  | _, _ => false
def goesOn (r : Rw) (k : Nat) : List Nat := match r with
  | .go t => [t]
  | .cond _ _ _ t => [t, k + 1]
  | _ => [k + 1]
def dropX (r : Rw) (bits : Nat) : Nat := match r with
  | .put x _ _ _ => bits - (bits &&& 1 <<< x)
  | _ => bits
def bitsBehind (h t : Rw) (bits : Nat) : Nat := match h with
  | .put x y s z => if (decide (Rw.put x y s z = t) && (agrees y bits && agrees z bits)) = true then bits ||| 1 <<< x else dropX t (dropX h bits)
  | _ => dropX t (dropX h bits)
abbrev Tri := Nat × Nat × Nat
def Rw.to : Rw → Nat
  | .cond _ _ _ t => t
  | _ => 0
def follow (one other : Prog) (k j bits : Nat) : Option (List Tri) :=
  let h := rowAt one k
  let t := rowAt other j
  if (isStop h || isStop t) = true then (if endAlike h t bits = true then some [] else none)
  else match h, t with
    | some h, some t =>
      if sameChoice h t bits = true then some [(h.to, t.to, bits), (k + 1, j + 1, bits)]
      else some ((goesOn h k).flatMap fun a => (goesOn t j).map fun b => (a, b, bitsBehind h t bits))
    | _, _ => none
def encT (x : Tri) : PyData := .tuple [.int (x.1 : Int), .int (x.2.1 : Int), .int (x.2.2 : Int)]
/-! ### papers -/
abbrev Kn := List ((Nat × Nat) × Nat)
def ck (k : Nat × Nat) : Int × Int := ((k.1 : Int), (k.2 : Int))
def toKvs (kn : Kn) : Kvs := kn.map fun p => (ck p.1, (p.2 : Int))
def getN : Kn → Nat × Nat → Option Nat
  | [], _ => none
  | p :: r, k => if p.1 = k then some p.2 else getN r k
def putN (kn : Kn) (k : Nat × Nat) (v : Nat) : Kn := if (kn.any fun p => decide (p.1 = k)) = true then kn.map (fun p => if p.1 = k then (p.1, v) else p) else kn ++ [(k, v)]
def takeStep (s : Kn × List (Nat × Nat)) (f : Tri) : Kn × List (Nat × Nat) := match getN s.1 (f.1, f.2.1) with
  | none => (putN s.1 (f.1, f.2.1) f.2.2, s.2 ++ [(f.1, f.2.1)])
  | some old => if old &&& f.2.2 ≠ old then (putN s.1 (f.1, f.2.1) (old &&& f.2.2), s.2 ++ [(f.1, f.2.1)]) else s
def takenIn (known : Kn) (fs : List Tri) : Kn × List (Nat × Nat) := fs.foldl takeStep (known, [])
/-! ### the law's own -/
def cellAt (ns : List Int) (k : Nat) : Int :=
  if k < ns.length then ns.getD k 0
  else if ns = [] then ((k : Int) * k + 3 * k + 1) * 16807 % 2147483629
  else (ns.getD (ns.length - 1) 0 % 1000003 + 2) * ((k : Int) * k + 16807) % 2147483629
def edges : List Int := [-1000000000, -999999999, -1, 0, 1, 999999998, 999999999]
def lSmall (c : Int) : Int :=
  if c % 4 = 0 then c / 4 % 9 - 4
  else if c % 4 = 1 then edges.getD (c / 4 % 7).toNat 0
  else c / 4 * 69621 % 2000000000 - 1000000000
def lOperand (c : Int) (many : Nat) : Opd := if (decide (0 < many) && decide (0 < c % 3)) = true then .name (c / 3 % (many : Int)).toNat else .num (lSmall (c / 3))
def sgns : List Sgn := [.add, .sub, .mul, .div, .mod]
def cmps : List Cmp := [.lt, .le, .eq, .ge, .gt, .ne]
def lRow (c : Nat → Int) (many size : Nat) : Rw :=
  let a := lOperand (c 1) many
  let b := lOperand (c 2) many
  if (decide (c 0 % 8 < 4) && decide (0 < many)) = true then .put (c 3 % (many : Int)).toNat a (sgns.getD (c 0 / 8 % 5).toNat .add) b
  else if c 0 % 8 < 6 then .cond a (cmps.getD (c 0 / 8 % 6).toNat .lt) b (c 3 % ((size : Int) + 1)).toNat
  else if c 0 % 8 = 6 then .tell a
  else if c 0 / 8 % 2 = 0 then .go (c 3 % ((size : Int) + 1)).toNat else .skip
def lJumps (r : Rw) (places : List Nat) : Rw := match r with
  | .cond y s z t => .cond y s z (places.getD t 0)
  | .go t => .go (places.getD t 0)
  | r => r
def flip2 : Cmp → Cmp
  | .lt => .gt
  | .le => .ge
  | .gt => .lt
  | .ge => .le
  | s => s
def lMirrored (r : Rw) : Rw := match r with
  | .put x y .add z => .put x z .add y
  | .put x y .mul z => .put x z .mul y
  | .cond y s z t => .cond z (flip2 s) y t
  | r => r
def lFar (c : Int) (k copy size : Nat) : Nat := ((c % 1000003 + 1) * ((k : Int) * k + 13 * copy + 5) % 10007 % 2).toNat * size
def lPlaces (far size : Nat) : List Nat := (List.range size).map (fun t => t + far) ++ [2 * size]
def lDoubled (rows : List Rw) (c : Int) : List Rw := (List.range 2).flatMap fun copy => (List.range rows.length).map fun k => lJumps (rows.getD k .skip) (lPlaces (lFar c k copy rows.length) rows.length)
def isEnd : Rw → Bool
  | .go _ => true
  | .tell _ => true
  | _ => false
def lRows (ns : List Int) (many : Nat) (way : Nat) : List Rw :=
  let s0 := (cellAt ns 6 % 13).toNat
  let size := if way = 5 ∨ way = 6 then s0 % 7 else s0
  let rows := (List.range size).map fun k => lRow (fun j => cellAt ns (10 + 4 * k + j)) many size
  if ((way = 5 ∨ way = 6) ∧ 0 < size) ∧ isEnd (rows.getD (size - 1) .skip) = false then rows.set (size - 1) (.go (cellAt ns (9 + 4 * size) % ((size : Int) + 1)).toNat) else rows
def lFresh (f o : Rw) : Rw := match f, o with
  | .put _ y s z, .put x _ _ _ => .put x y s z
  | f, _ => f
def lTaken (ns : List Int) : Nat := (cellAt ns 0 % 4).toNat
def lMany (ns : List Int) : Nat := lTaken ns + (cellAt ns 0 / 4 % (6 - (lTaken ns : Int))).toNat
def lWay (ns : List Int) : Nat := (cellAt ns 1 % 8).toNat
def lOthers (ns : List Int) : List Rw :=
  let way := lWay ns
  let rows := lRows ns (lMany ns) way
  let o1 := if way = 1 ∨ way = 4 then rows.map lMirrored else rows
  let o2 := if way = 5 ∨ way = 6 then lDoubled rows (cellAt ns 2) else o1
  let o3 := if way = 7 then rows.reverse else o2
  if (way = 2 ∨ way = 3 ∨ way = 4 ∨ way = 6) ∧ 0 < rows.length then
    let at_ := o3.length - 1 - (cellAt ns 1 / 8 % (rows.length : Int)).toNat
    o3.set at_ (lFresh (lRow (fun j => cellAt ns (2 + j)) (lMany ns) rows.length) (o3.getD at_ .skip))
  else o3
def lTwo (ns : List Int) : Prog × Prog :=
  let one : Prog := ⟨lTaken ns, 0, 4, lMany ns, lRows ns (lMany ns) (lWay ns)⟩
  let other : Prog := ⟨lTaken ns, -9, 9, lMany ns, lOthers ns⟩
  if cellAt ns 1 / 104 % 2 = 1 then (other, one) else (one, other)
def lFound (a : Int) (s : Sgn) (b : Int) : Int := match s with
  | .add => a + b
  | .sub => a - b
  | .mul => a * b
  | .div => if b = 0 then 0 else a.fdiv b
  | .mod => if b = 0 then a else a.fmod b
def lReckon (a : Int) (s : Sgn) (b : Int) : Int := around (lFound a s b)
/-! ### runs -/
inductive Tr | st (k : Nat) (vs : List Int) | none | told (v : Int) | late
  deriving DecidableEq
def encV (vs : List Int) : PyData := .tuple (vs.map PyData.int)
def Tr.enc : Tr → PyData
  | .st k vs => .tuple [.int (k : Int), encV vs]
  | .none => .tuple [.str "none"]
  | .told v => .tuple [.str "told", .int v]
  | .late => .tuple [.str "late"]
def worth (y : Opd) (vs : List Int) : Int := match y with
  | .num c => c
  | .name i => vs.getD i 0
def lMoved (p : Prog) (k : Nat) (vs : List Int) : Tr := match p.rows[k]? with
  | Option.none => .none
  | some (.tell y) => .told (worth y vs)
  | some (.put x y s z) => .st (k + 1) (vs.set x (lReckon (worth y vs) s (worth z vs)))
  | some (.go t) => .st t vs
  | some (.cond y s z t) => if isSo (worth y vs) s (worth z vs) = true then .st t vs else .st (k + 1) vs
  | some .skip => .st (k + 1) vs
def lTrailFrom (p : Prog) : Nat → Nat → List Int → List Tr
  | 0, k, vs => if k < p.rows.length then [.late] else [lMoved p k vs]
  | n + 1, k, vs => match lMoved p k vs with
    | .st k' vs' => .st k' vs' :: lTrailFrom p n k' vs'
    | o => [o]
def lTrail (p : Prog) (inputs : List Int) (limit : Nat) : List Tr :=
  let vs := inputs ++ List.replicate (p.many - inputs.length) 0
  .st 0 vs :: lTrailFrom p limit 0 vs
def lAlike (a b : List Int) (bits : Nat) : Bool := (List.range a.length).all fun i => !(bits.testBit i && !decide (a.getD i 0 = b.getD i 0))
def alongAt (g : Nat × Nat → Option Nat) (a b : Tr) : Bool := match a, b with
  | .st k vs, .st j ws => (match g (k, j) with
    | Option.none => false
    | some bits => lAlike vs ws bits)
  | _, _ => false
def lAlong (g : Nat × Nat → Option Nat) (a b : List Tr) : Bool :=
  if a.length ≠ b.length ∨ a.getLast? ≠ b.getLast? then false
  else (a.dropLast.zip b.dropLast).all fun p => alongAt g p.1 p.2
def lLimit (ns : List Int) : Nat := if cellAt ns 9 % 8 = 3 then (cellAt ns 9 / 8 % 201).toNat else (cellAt ns 9 / 8 % 25).toNat
def lInputs (ns : List Int) (taken turn : Nat) : List Int := (List.range taken).map fun k => lSmall (cellAt ns (58 + k) / (1 + 5 * (turn : Int)) + turn)
end Fkh
namespace Fkh
open PySem PySem.Spec PyProof.Rows L2 Evl
local macro_rules | `(tactic| walk_at "ev") => `(tactic| first
  | ((with_reducible apply ed_var); rfl)
  | with_reducible exact ed_int
  | with_reducible exact ed_str
  | with_reducible exact ed_non
  | with_reducible exact ed_bl
  | ((with_reducible apply ed_glob); assumption)
  | with_reducible exact ea_nil
  | with_reducible exact har_nil
  | with_reducible exact ep_none
  | ((with_reducible apply er_l); rfl)
  | ((with_reducible apply er_o); rfl)
  | with_reducible exact rv_eqI
  | with_reducible exact rv_eqS
  | with_reducible exact rv_neI
  | with_reducible exact rv_neS
  | with_reducible exact rv_eqB
  | with_reducible exact rv_isN
  | with_reducible exact rv_ltO
  | with_reducible exact rv_ltOpd
  | ((with_reducible show atI _ _ = some _); first | with_reducible exact atI_cons0 | rfl)
  | ((with_reducible show CMul _ _); first | exact .inl ⟨by omega, by omega⟩ | exact .inr ⟨by omega, by omega⟩)
  | ((with_reducible show (0 : Int) < _); first | decide | omega)
  | ((with_reducible show (0 : Int) ≤ _); omega)
  | ((with_reducible show CPow _ _); exact ⟨by omega, by omega, by decide⟩)
  | ((with_reducible show Nat.ble _ _ = true); rfl)
  | ((with_reducible show flat _ = true); rfl)
  | ((with_reducible show List.all _ _ = true); rfl)
  | ((with_reducible show CDiv _ _); exact ⟨by decide, by decide⟩)
  | ((with_reducible apply ed_ixT) <;> try walk_at "ev")
  | ((with_reducible apply ed_I0) <;> try walk_at "ev")
  | ((with_reducible apply ed_B0) <;> try walk_at "ev")
  | ((with_reducible apply ed_I) <;> try walk_at "ev")
  | ((with_reducible apply ed_ixV) <;> try walk_at "ev")
  | ((with_reducible apply ed_ixL) <;> try walk_at "ev")
  | ((with_reducible apply ed_eqD) <;> try walk_at "ev")
  | ((with_reducible apply ed_neD) <;> try walk_at "ev")
  | ((with_reducible apply ed_isT) <;> try walk_at "ev")
  | ((with_reducible apply ed_niT) <;> try walk_at "ev")
  | ((with_reducible apply ed_catT) <;> try walk_at "ev")
  | ((with_reducible apply ed_repA) <;> try walk_at "ev")
  | ((with_reducible apply ed_op) <;> try walk_at "ev")
  | ((with_reducible apply ed_un) <;> try walk_at "ev")
  | ((with_reducible apply ed_slT) <;> try walk_at "ev")
  | ((with_reducible apply ep_some) <;> try walk_at "ev")
  | ((with_reducible apply ed_lenT) <;> try walk_at "ev")
  | ((with_reducible apply ed_lenL) <;> try walk_at "ev")
  | ((with_reducible apply ed_tupOf) <;> try walk_at "ev")
  | ((with_reducible apply ed_divN) <;> try walk_at "ev")
  | ((with_reducible apply ed_andF); (walk_at "ev"); decide)
  | ((with_reducible apply ed_orT); (walk_at "ev"); decide)
  | ((with_reducible apply ed_andV) <;> (try (first | ((with_reducible show _ = true → _); intro _) | ((with_reducible show _ = false → _); intro _))) <;> try walk_at "ev")
  | ((with_reducible apply ed_orV) <;> (try (first | ((with_reducible show _ = true → _); intro _) | ((with_reducible show _ = false → _); intro _))) <;> try walk_at "ev")
  | ((with_reducible apply ed_notV) <;> try walk_at "ev")
  | ((with_reducible apply ed_tupB) <;> try walk_at "ev")
  | ((with_reducible apply ea_cons) <;> try walk_at "ev")
  | ((with_reducible apply har_d) <;> try walk_at "ev")
  | ((with_reducible apply eb_test) <;> try walk_at "ev")
  | ((with_reducible apply eb_B) <;> try walk_at "ev")
  | ((with_reducible apply eb_andF); (walk_at "ev"); decide)
  | ((with_reducible apply eb_orT); (walk_at "ev"); decide)
  | ((with_reducible apply eb_and) <;> (try (first | ((with_reducible show _ = true → _); intro _) | ((with_reducible show _ = false → _); intro _))) <;> try walk_at "ev")
  | ((with_reducible apply eb_or) <;> (try (first | ((with_reducible show _ = true → _); intro _) | ((with_reducible show _ = false → _); intro _))) <;> try walk_at "ev")
  | ((with_reducible apply eb_not) <;> try walk_at "ev")
  | ((with_reducible apply ed_call) <;> try walk_at "ev"))
local macro_rules | `(tactic| walk_at "go") => `(tactic| first
  | ((with_reducible apply run_seq); walk_at "go")
  | ((with_reducible apply run_next); (try (with_reducible show Run _ _ _ _)); (try walk_at "go"))
  | ((with_reducible apply run_if); (all_goals (try walk_at "ev")); (all_goals (try (((with_reducible show _ = true → _)); intro h; first | exact absurd h (by decide) | (try walk_at "go")))); (all_goals (try (((with_reducible show _ = false → _)); intro h; first | exact absurd h (by decide) | (try walk_at "go")))))
  | ((with_reducible apply run_asg); (all_goals (try walk_at "ev")); (all_goals (try (with_reducible show Run _ _ _ _))); (all_goals (try walk_at "go")))
  | ((with_reducible apply run_asgT2); (all_goals (try walk_at "ev")); (all_goals (try (with_reducible show Run _ _ _ _))); (all_goals (try walk_at "go")))
  | ((with_reducible apply run_ret); (all_goals (try walk_at "ev"))))
variable {P : Program} {w : World} {K : Fg} {mg : Str → Option Value} {base : Heap} {aN aO : Addr} {tR : Tok}
/-! ### numbers -/
abbrev sAround : Stmt := top 2
theorem scAround : FnScope ["number"] ["number"] (defScope sAround) := ⟨rfl, rfl, rfl, by decide +kernel, rfl, by decide +kernel, by decide +kernel⟩
def FAround (es : List Ent) (r : Ent) : Prop := ∃ n : Int, es = [.d (.int n)] ∧ r = .d (.int (around n))
theorem dfAround (G : Gs K mg aN aO tR) (D : ∃ f fd, mg "around" = some (.ref f) ∧ FunP K "around" sAround f fd) : Df P w K mg base "around" 1 ["number"] (spF K FAround) := by
  refine df_mk D scAround (fun _ _ _ _ _ _ us hl => match us, hl with | [_], _ => rfl) (fun es r h => ?_) fun f cdv A outer s H E hr es r hF => ⟨_, (pss_one (ps_ret (pe_op op_sub (pe_op op_mod (pe_op op_add (pv 0) (pe_glob (v := .int 1000000000) rfl G.reach ⟨_, rfl⟩)) (pe_op op_mul pe_int (pe_glob (v := .int 1000000000) rfl G.reach ⟨_, rfl⟩))) (pe_glob (v := .int 1000000000) rfl G.reach ⟨_, rfl⟩)))), ?_⟩
  · obtain ⟨n, rfl, _⟩ := h
    rfl
  obtain ⟨n, rfl, rfl⟩ := hF
  walk_at "go"
  rfl
def Small (n : Int) : Prop := -1000000000 ≤ n ∧ n < 1000000000
abbrev sReckon : Stmt := top 3
theorem scReckon : FnScope ["one", "sign", "other", "share", "left"] ["one", "sign", "other"] (defScope sReckon) := ⟨rfl, rfl, rfl, by decide +kernel, rfl, by decide +kernel, by decide +kernel⟩
def FReckon (es : List Ent) (r : Ent) : Prop := ∃ a s b, es = [.d (.int a), .d (.str (Sgn.str s)), .d (.int b)] ∧ Small a ∧ Small b ∧ r = .d (.int (reckon a s b))
theorem dfReckon (G : Gs K mg aN aO tR) (dAround : Df P w K mg base "around" 1 ["number"] (spF K FAround)) (D : ∃ f fd, mg "reckon" = some (.ref f) ∧ FunP K "reckon" sReckon f fd) : Df P w K mg base "reckon" 2 ["one", "sign", "other"] (spF K FReckon) := by
  refine df_mk D scReckon (fun _ _ _ _ _ _ us hl => match us, hl with | [_, _, _], _ => rfl) (fun es r h => ?_) fun f cdv A outer s H E hr es r hF => ⟨_, (pss_cons (ps_if (pt_cmpR op_eq (pv 1) pe_str (nomark _))
      (pss_one (ps_ret (pe_df dAround (hr.mono (by decide)) rfl (pa_cons (pe_op op_add (pv 0) (pv 2)) pa_nil))))
      pss_nil)
    (pss_cons (ps_if (pt_cmpR op_eq (pv 1) pe_str (nomark _))
      (pss_one (ps_ret (pe_df dAround (hr.mono (by decide)) rfl (pa_cons (pe_op op_sub (pv 0) (pv 2)) pa_nil))))
      pss_nil)
    (pss_cons (ps_if (pt_cmpR op_eq (pv 1) pe_str (nomark _))
      (pss_one (ps_ret (pe_df dAround (hr.mono (by decide)) rfl (pa_cons (pe_op op_mul (pv 0) (pv 2)) pa_nil))))
      pss_nil)
    (pss_cons (ps_if (pt_cmpR op_eq (pv 2) pe_int (nomark _))
      (pss_cons (ps_if (pt_cmpR op_eq (pv 1) pe_str (nomark _))
      (pss_one (ps_ret pe_int))
      pss_nil)
    (pss_one (ps_ret (pv 0))))
      pss_nil)
    (pss_cons (ps_asg (pe_callB call_div1 (by rfl) G.divmod (by decide +kernel) (pa_cons (pv 0) (pa_cons (pv 2) pa_nil))) (pg_tup rfl (pgs_cons (pg_name (i := 3) scReckon.nd rfl (Or.inl rfl)) (pgs_cons (pg_name (i := 4) scReckon.nd rfl (Or.inl rfl)) pgs_nil))))
    (pss_cons (ps_if (pt_cmpR op_eq (pv 1) pe_str (nomark _))
      (pss_one (ps_ret (pe_df dAround (hr.mono (by decide)) rfl (pa_cons (pv 3) pa_nil))))
      pss_nil)
    (pss_one (ps_ret (pv 4))))))))), ?_⟩
  · obtain ⟨a, s, b, rfl, _⟩ := h
    rfl
  obtain ⟨a, sg, b, rfl, ha, hb, rfl⟩ := hF
  dsimp only [cxOf, Cx.nox, Cx.wish]
  have hc : b ≠ 0 → CDivN a b := fun h => ⟨h, by
    obtain ⟨h1, h2⟩ := hb
    omega⟩
  have hm : CMul a b := .inl ⟨by
    obtain ⟨h1, h2⟩ := ha
    omega, by
    obtain ⟨h1, h2⟩ := ha
    omega⟩
  by_cases h0 : b = 0
  · subst h0
    cases sg <;> walk_at "go" <;> first | rfl | exact ⟨_, rfl, rfl⟩ | exact hm | (exfalso; simp_all; done)
  · cases sg <;> walk_at "go" <;> first | rfl | exact ⟨_, rfl, rfl⟩ | exact hm | exact hc h0 | (exfalso; simp_all; done) | (show Ent.d _ = Ent.d _; simp [reckon, h0]; done) | (show FAround _ _; exact ⟨_, rfl, by simp [reckon, h0]⟩) 
abbrev sIsSo : Stmt := top 4
theorem scIsSo : FnScope ["one", "sign", "other"] ["one", "sign", "other"] (defScope sIsSo) := ⟨rfl, rfl, rfl, by decide +kernel, rfl, by decide +kernel, by decide +kernel⟩
def FIsSo (es : List Ent) (r : Ent) : Prop := ∃ a s b, es = [.d (.int a), .d (.str (Cmp.str s)), .d (.int b)] ∧ r = .d (.bool (isSo a s b))
theorem dfIsSo (G : Gs K mg aN aO tR) (D : ∃ f fd, mg "is_so" = some (.ref f) ∧ FunP K "is_so" sIsSo f fd) : Df P w K mg base "is_so" 1 ["one", "sign", "other"] (spF K FIsSo) := by
  refine df_mk D scIsSo (fun _ _ _ _ _ _ us hl => match us, hl with | [_, _, _], _ => rfl) (fun es r h => ?_) fun f cdv A outer s H E hr es r hF => ⟨_, (pss_cons (ps_if (pt_cmpR op_eq (pv 1) pe_str (nomark _))
      (pss_one (ps_ret (pe_cmpR op_lt (pv 0) (pv 2) (nomark _))))
      pss_nil)
    (pss_cons (ps_if (pt_cmpR op_eq (pv 1) pe_str (nomark _))
      (pss_one (ps_ret (pe_cmpR op_le (pv 0) (pv 2) (nomark _))))
      pss_nil)
    (pss_cons (ps_if (pt_cmpR op_eq (pv 1) pe_str (nomark _))
      (pss_one (ps_ret (pe_cmpR op_eq (pv 0) (pv 2) (nomark _))))
      pss_nil)
    (pss_cons (ps_if (pt_cmpR op_eq (pv 1) pe_str (nomark _))
      (pss_one (ps_ret (pe_cmpR op_ge (pv 0) (pv 2) (nomark _))))
      pss_nil)
    (pss_cons (ps_if (pt_cmpR op_eq (pv 1) pe_str (nomark _))
      (pss_one (ps_ret (pe_cmpR op_gt (pv 0) (pv 2) (nomark _))))
      pss_nil)
    (pss_one (ps_ret (pe_cmpR op_ne (pv 0) (pv 2) (nomark _))))))))), ?_⟩
  · obtain ⟨a, s, b, rfl, _⟩ := h
    rfl
  obtain ⟨a, sg, b, rfl, rfl⟩ := hF
  cases sg <;> walk_at "go" <;> rfl
end Fkh
namespace Fkh
open PySem PySem.Spec PyProof.Rows L2 Evl
local macro_rules | `(tactic| walk_at "ev") => `(tactic| first
  | ((with_reducible apply ed_var); rfl)
  | with_reducible exact ed_int
  | with_reducible exact ed_str
  | with_reducible exact ed_non
  | with_reducible exact ed_bl
  | ((with_reducible apply ed_glob); assumption)
  | with_reducible exact ea_nil
  | with_reducible exact har_nil
  | with_reducible exact ep_none
  | ((with_reducible apply er_l); rfl)
  | ((with_reducible apply er_o); rfl)
  | with_reducible exact rv_eqI
  | with_reducible exact rv_eqS
  | with_reducible exact rv_neI
  | with_reducible exact rv_neS
  | with_reducible exact rv_eqB
  | with_reducible exact rv_isN
  | with_reducible exact rv_ltO
  | with_reducible exact rv_ltOpd
  | ((with_reducible show atI _ _ = some _); first | with_reducible exact atI_cons0 | rfl)
  | ((with_reducible show CMul _ _); first | exact .inl ⟨by omega, by omega⟩ | exact .inr ⟨by omega, by omega⟩)
  | ((with_reducible show (0 : Int) < _); first | decide | omega)
  | ((with_reducible show (0 : Int) ≤ _); omega)
  | ((with_reducible show CPow _ _); exact ⟨by omega, by omega, by decide⟩)
  | ((with_reducible show Nat.ble _ _ = true); rfl)
  | ((with_reducible show flat _ = true); rfl)
  | ((with_reducible show List.all _ _ = true); rfl)
  | ((with_reducible show CDiv _ _); exact ⟨by decide, by decide⟩)
  | ((with_reducible apply ed_ixT) <;> try walk_at "ev")
  | ((with_reducible apply ed_I0) <;> try walk_at "ev")
  | ((with_reducible apply ed_B0) <;> try walk_at "ev")
  | ((with_reducible apply ed_I) <;> try walk_at "ev")
  | ((with_reducible apply ed_ixV) <;> try walk_at "ev")
  | ((with_reducible apply ed_ixL) <;> try walk_at "ev")
  | ((with_reducible apply ed_eqD) <;> try walk_at "ev")
  | ((with_reducible apply ed_neD) <;> try walk_at "ev")
  | ((with_reducible apply ed_isT) <;> try walk_at "ev")
  | ((with_reducible apply ed_niT) <;> try walk_at "ev")
  | ((with_reducible apply ed_catT) <;> try walk_at "ev")
  | ((with_reducible apply ed_repA) <;> try walk_at "ev")
  | ((with_reducible apply ed_op) <;> try walk_at "ev")
  | ((with_reducible apply ed_un) <;> try walk_at "ev")
  | ((with_reducible apply ed_slT) <;> try walk_at "ev")
  | ((with_reducible apply ep_some) <;> try walk_at "ev")
  | ((with_reducible apply ed_lenT) <;> try walk_at "ev")
  | ((with_reducible apply ed_lenL) <;> try walk_at "ev")
  | ((with_reducible apply ed_tupOf) <;> try walk_at "ev")
  | ((with_reducible apply ed_divN) <;> try walk_at "ev")
  | ((with_reducible apply ed_andF); (walk_at "ev"); decide)
  | ((with_reducible apply ed_orT); (walk_at "ev"); decide)
  | ((with_reducible apply ed_andV) <;> (try (first | ((with_reducible show _ = true → _); intro _) | ((with_reducible show _ = false → _); intro _))) <;> try walk_at "ev")
  | ((with_reducible apply ed_orV) <;> (try (first | ((with_reducible show _ = true → _); intro _) | ((with_reducible show _ = false → _); intro _))) <;> try walk_at "ev")
  | ((with_reducible apply ed_notV) <;> try walk_at "ev")
  | ((with_reducible apply ed_tupB) <;> try walk_at "ev")
  | ((with_reducible apply ea_cons) <;> try walk_at "ev")
  | ((with_reducible apply har_d) <;> try walk_at "ev")
  | ((with_reducible apply eb_test) <;> try walk_at "ev")
  | ((with_reducible apply eb_B) <;> try walk_at "ev")
  | ((with_reducible apply eb_andF); (walk_at "ev"); decide)
  | ((with_reducible apply eb_orT); (walk_at "ev"); decide)
  | ((with_reducible apply eb_and) <;> (try (first | ((with_reducible show _ = true → _); intro _) | ((with_reducible show _ = false → _); intro _))) <;> try walk_at "ev")
  | ((with_reducible apply eb_or) <;> (try (first | ((with_reducible show _ = true → _); intro _) | ((with_reducible show _ = false → _); intro _))) <;> try walk_at "ev")
  | ((with_reducible apply eb_not) <;> try walk_at "ev")
  | ((with_reducible apply ed_call) <;> try walk_at "ev"))
local macro_rules | `(tactic| walk_at "go") => `(tactic| first
  | ((with_reducible apply run_seq); walk_at "go")
  | ((with_reducible apply run_next); (try (with_reducible show Run _ _ _ _)); (try walk_at "go"))
  | ((with_reducible apply run_if); (all_goals (try walk_at "ev")); (all_goals (try (((with_reducible show _ = true → _)); intro h; first | exact absurd h (by decide) | (try walk_at "go")))); (all_goals (try (((with_reducible show _ = false → _)); intro h; first | exact absurd h (by decide) | (try walk_at "go")))))
  | ((with_reducible apply run_asg); (all_goals (try walk_at "ev")); (all_goals (try (with_reducible show Run _ _ _ _))); (all_goals (try walk_at "go")))
  | ((with_reducible apply run_asgT2); (all_goals (try walk_at "ev")); (all_goals (try (with_reducible show Run _ _ _ _))); (all_goals (try walk_at "go")))
  | ((with_reducible apply run_ret); (all_goals (try walk_at "ev"))))
variable {P : Program} {w : World} {K : Fg} {mg : Str → Option Value} {base : Heap} {aN aO : Addr} {tR : Tok}
/-! ### made rows -/
theorem run_cut {δ : Env} {P : Post} {t u : TS} (δ' : Env) (h : Run K t δ { P with nx := fun d => d = δ' }) (k : Run K u δ' P) : Run K (tSeq t u) δ P := fun H0 F H σ D S G =>
  h H0 F H σ _ S ⟨fun d σ' H' e S' => by
    subst e
    exact k H0 F H' σ' D S' G, G.rt, G.bk, G.ct⟩
theorem run_mid {δ : Env} {P : Post} {t u : TS} (M : Env → Prop) (h : Run K t δ { P with nx := M }) (k : ∀ d, M d → Run K u d P) : Run K (tSeq t u) δ P := fun H0 F H σ D S G =>
  h H0 F H σ _ S ⟨fun d σ' H' e S' => k d e H0 F H' σ' D S' G, G.rt, G.bk, G.ct⟩
theorem ne_nn : (Str.ofString "name" : Str) ≠ Str.ofString "number" := by decide +kernel
theorem tag_num (y : Opd) : decide (y.tag = "number") = y.isNum := by
  cases y with
  | name i => exact decide_eq_false ne_nn
  | num c => exact decide_eq_true rfl
theorem opd_shaped (y : Opd) : SeqAt.shaped y.enc = true := by
  have h : PyData.strOk y.tag = true := by cases y <;> (show PyData.strOk (Str.ofString _) = true; decide +kernel)
  simp [Opd.enc, SeqAt.shaped, PyData.canLay0, PyData.canLayAll0, PyData.depth, PyData.depthAll, h]
theorem opd_eqv (y z : Opd) : PyData.eqv y.enc z.enc = decide (y = z) := by
  have h1 := ne_nn
  have h2 := ne_nn.symm
  cases y <;> cases z <;> simp [Opd.enc, Opd.tag, Opd.val, PyData.eqv, PyData.eqvAll, h1, h2]
  · rename_i a b
    by_cases e : a = b
    · subst e
      simp
    · rw [decide_eq_false e]
      exact beq_eq_false_iff_ne.mpr (by omega)
  · rename_i a b
    by_cases e : a = b
    · subst e
      simp
    · rw [decide_eq_false e]
      exact beq_eq_false_iff_ne.mpr e
theorem eqv_nought (y : Opd) : PyData.eqv y.enc nought = decide (y = .num 0) := opd_eqv y (.num 0)
theorem eqv_one (y : Opd) : PyData.eqv y.enc oneD = decide (y = .num 1) := opd_eqv y (.num 1)
theorem s_add (s : Sgn) : decide (s.str = Str.ofString "+") = decide (s = .add) := by cases s <;> decide +kernel
theorem s_sub (s : Sgn) : decide (s.str = Str.ofString "-") = decide (s = .sub) := by cases s <;> decide +kernel
theorem s_mul (s : Sgn) : decide (s.str = Str.ofString "*") = decide (s = .mul) := by cases s <;> decide +kernel
theorem s_div (s : Sgn) : decide (s.str = Str.ofString "/") = decide (s = .div) := by cases s <;> decide +kernel
theorem s_mod (s : Sgn) : decide (s.str = Str.ofString "mod") = decide (s = .mod) := by cases s <;> decide +kernel
theorem in_addmul (s : Sgn) : inD (.str s.str) [.str "+", .str "*"] = (decide (s = .add) || decide (s = .mul)) := by cases s <;> decide +kernel
theorem in_muldiv (s : Sgn) : inD (.str s.str) [.str "*", .str "/"] = (decide (s = .mul) || decide (s = .div)) := by cases s <;> decide +kernel
/-- small numbers; an operand of a program with so many names -/
def Opd.Ok (many : Nat) : Opd → Prop
  | .name i => i < many
  | .num c => Small c
theorem Opd.Ok.num {m : Nat} {y : Opd} (h : y.Ok m) (hn : y.isNum = true) : Small y.val := by
  cases y with
  | name i => cases hn
  | num c => exact h
abbrev sNought : Stmt := top 8
theorem scNought : FnScope ["y", "sign", "z"] ["y", "sign", "z"] (defScope sNought) := ⟨rfl, rfl, rfl, by decide +kernel, rfl, by decide +kernel, by decide +kernel⟩
def FNought (es : List Ent) (r : Ent) : Prop := ∃ y s z, es = [.d (Opd.enc y), .d (.str (Sgn.str s)), .d (Opd.enc z)] ∧ r = .d (.bool (comesNought y s z))
theorem dfNought (G : Gs K mg aN aO tR) (D : ∃ f fd, mg "comes_to_nought" = some (.ref f) ∧ FunP K "comes_to_nought" sNought f fd) : Df P w K mg base "comes_to_nought" 1 ["y", "sign", "z"] (spF K FNought) := by
  have hN := G.tN
  have hO := G.tO
  refine df_mk D scNought (fun _ _ _ _ _ _ us hl => match us, hl with | [_, _, _], _ => rfl) (fun es r h => ?_) fun f cdv A outer s H E hr es r hF => ⟨_, (pss_cons (ps_if (pt_cmpR op_eq (pv 1) pe_str (nomark _))
      (pss_one (ps_ret (pe_cmpR (op_eqD hr.units) (pv 2) (pe_glob (v := .ref aN) rfl G.nought rfl) (nomark _))))
      pss_nil)
    (pss_cons (ps_if (pt_cmpR op_eq (pv 1) pe_str (nomark _))
      (pss_one (ps_ret (pe_cmpR (op_eqD hr.units) (pv 2) (pe_glob (v := .ref aO) rfl G.one rfl) (nomark _))))
      pss_nil)
    (pss_one (ps_ret (pe_and (pe_cmpR op_eq (pv 1) pe_str (nomark _)) (pe_one (pe_cmpR (op_eqD hr.units) (pv 0) (pv 2) (nomark _)))))))), ?_⟩
  · obtain ⟨y, s, z, rfl, _⟩ := h
    rfl
  obtain ⟨y, sg, z, rfl, rfl⟩ := hF
  dsimp only [cxOf, Cx.nox, Cx.wish]
  cases sg <;> walk_at "go" <;> first | exact opd_shaped _ | exact opd_shaped (.num 0) | exact opd_shaped (.num 1) | (show Ent.d (.bool _) = Ent.d (.bool _); simp [opd_eqv, eqv_nought, eqv_one, comesNought, s_sub]; done)
abbrev sMadePut : Stmt := top 9
theorem scMadePut : FnScope ["x", "y", "sign", "z"] ["x", "y", "sign", "z"] (defScope sMadePut) := ⟨rfl, rfl, rfl, by decide +kernel, rfl, by decide +kernel, by decide +kernel⟩
def FMadePut (es : List Ent) (r : Ent) : Prop := ∃ (x : Nat) (y : Opd) (s : Sgn) (z : Opd) (m : Nat), es = [.d (.int (x : Int)), .d (Opd.enc y), .d (.str (Sgn.str s)), .d (Opd.enc z)] ∧ y.Ok m ∧ z.Ok m ∧ r = .d (madePut x y s z).enc
theorem dfMadePut (G : Gs K mg aN aO tR) (dAround : Df P w K mg base "around" 1 ["number"] (spF K FAround)) (dReckon : Df P w K mg base "reckon" 2 ["one", "sign", "other"] (spF K FReckon)) (dNought : Df P w K mg base "comes_to_nought" 1 ["y", "sign", "z"] (spF K FNought))
    (D : ∃ f fd, mg "made_put" = some (.ref f) ∧ FunP K "made_put" sMadePut f fd) : Df P w K mg base "made_put" 3 ["x", "y", "sign", "z"] (spF K FMadePut) := by
  have hN := G.tN
  have hO := G.tO
  refine df_mk D scMadePut (fun _ _ _ _ _ _ us hl => match us, hl with | [_, _, _, _], _ => rfl) (fun es r h => ?_) fun f cdv A outer s H E hr es r hF => ⟨_, (pss_cons (ps_if (PW.pt (pw_and (pt_cmpR op_eq (pe_ix ix_tup (pv 1) pe_int (fun _ _ => rfl)) pe_str (nomark _)) (pw_and1 (pt_cmpR op_eq (pe_ix ix_tup (pv 3) pe_int (fun _ _ => rfl)) pe_str (nomark _)))))
      (pss_one (ps_ret (pe_tup (pa_cons pe_str (pa_cons (pv 0) (pa_cons (pe_tup (pa_cons pe_str (pa_cons (pe_df dReckon (hr.mono (by decide)) rfl (pa_cons (pe_ix ix_tup (pv 1) pe_int (fun _ _ => rfl)) (pa_cons (pv 2) (pa_cons (pe_ix ix_tup (pv 3) pe_int (fun _ _ => rfl)) pa_nil)))) pa_nil))) (pa_cons pe_str (pa_cons (pe_glob (v := .ref aN) rfl G.nought rfl) pa_nil))))))))
      pss_nil)
    (pss_cons (ps_if (PW.pt (pw_and (pt_cmpR op_eq (pv 2) pe_str (nomark _)) (pw_and1 (pt_cmpR op_eq (pe_ix ix_tup (pv 3) pe_int (fun _ _ => rfl)) pe_str (nomark _)))))
      (pss_cons (ps_set (i := 2) scMadePut.nd rfl (Or.inl rfl) pe_str)
    (pss_one (ps_set (i := 3) scMadePut.nd rfl (Or.inl rfl) (pe_tup (pa_cons pe_str (pa_cons (pe_df dAround (hr.mono (by decide)) rfl (pa_cons (pe_op op_sub pe_int (pe_ix ix_tup (pv 3) pe_int (fun _ _ => rfl))) pa_nil)) pa_nil))))))
      pss_nil)
    (pss_cons (ps_if (PW.pt (pw_and (pt_cmpR op_in_seq (pv 2) (pe_tup (pa_cons pe_str (pa_cons pe_str pa_nil))) rfl) (pw_and1 (pt_cmpR (op_ltO (hu_of hr)) (pv 3) (pv 1) (nomark _)))))
      (pss_one (ps_par (i := 1) (j := 3) (by rfl) scMadePut.nd rfl rfl (by decide) rfl rfl (pa_cons (pv 3) (pa_cons (pv 1) pa_nil)) (by rfl)))
      pss_nil)
    (pss_cons (ps_if (pt_val (pe_df dNought (hr.mono (by decide)) rfl (pa_cons (pv 1) (pa_cons (pv 2) (pa_cons (pv 3) pa_nil)))))
      (pss_one (ps_ret (pe_tup (pa_cons pe_str (pa_cons (pv 0) (pa_cons (pe_glob (v := .ref aN) rfl G.nought rfl) (pa_cons pe_str (pa_cons (pe_glob (v := .ref aN) rfl G.nought rfl) pa_nil))))))))
      pss_nil)
    (pss_cons (ps_if (PW.pt (pw_and (pt_cmpR op_in_seq (pv 2) (pe_tup (pa_cons pe_str (pa_cons pe_str pa_nil))) rfl) (pw_and1 (pt_cmpR (op_eqD hr.units) (pv 3) (pe_glob (v := .ref aO) rfl G.one rfl) (nomark _)))))
      (pss_cons (ps_set (i := 2) scMadePut.nd rfl (Or.inl rfl) pe_str)
    (pss_one (ps_set (i := 3) scMadePut.nd rfl (Or.inl rfl) (pe_glob (v := .ref aN) rfl G.nought rfl))))
      pss_nil)
    (pss_cons (ps_if (PW.pt (pw_and (pt_cmpR (op_eqD hr.units) (pv 1) (pe_tup (pa_cons pe_str (pa_cons (pv 0) pa_nil))) (nomark _)) (pw_and (pt_cmpR op_eq (pv 2) pe_str (nomark _)) (pw_and1 (pt_cmpR (op_eqD hr.units) (pv 3) (pe_glob (v := .ref aN) rfl G.nought rfl) (nomark _))))))
      (pss_one (ps_ret (pe_tup (pa_cons pe_str pa_nil))))
      pss_nil)
    (pss_one (ps_ret (pe_tup (pa_cons pe_str (pa_cons (pv 0) (pa_cons (pv 1) (pa_cons (pv 2) (pa_cons (pv 3) pa_nil)))))))))))))), ?_⟩
  · obtain ⟨x, y, s, z, m, rfl, _⟩ := h
    rfl
  obtain ⟨x, y, sg, z, m, rfl, hy, hz, rfl⟩ := hF
  dsimp only [cxOf, Cx.nox, Cx.wish]
  unfold madePut
  refine run_seq (run_if (b := y.isNum && z.isNum) (eb_is (by walk_at "ev") (by simp [tag_num])) (fun h => ?_) (fun h => ?_))
  · rw [if_pos h]
    rw [Bool.and_eq_true] at h
    walk_at "go"
    · exact ⟨_, _, _, rfl, hy.num h.1, hz.num h.2, rfl⟩
    · rfl
  rw [if_neg (by rw [h]; decide)]
  apply run_next
  show Run K _ _ _
  refine run_mid (fun d => ∃ s' z', d = [some (.d (.int (x : Int))), some (.d y.enc), some (.d (.str (Sgn.str s'))), some (.d (Opd.enc z'))] ∧ (if (decide (sg = .sub) && z.isNum) = true then madePut2 x y .add (.num (around (0 - z.val))) else madePut2 x y sg z) = madePut2 x y s' z') ?_ ?_
  · refine run_if (b := (decide (sg = .sub) && z.isNum)) (eb_is (by walk_at "ev") (by simp [tag_num, s_sub])) (fun h => ?_) (fun h => ?_)
    · rw [if_pos h]
      walk_at "go"
      · exact ⟨_, rfl, rfl⟩
      · exact ⟨.add, .num (around (0 - z.val)), rfl, rfl⟩
    · rw [if_neg (by rw [h]; decide)]
      apply run_next
      exact ⟨_, _, rfl, rfl⟩
  rintro _ ⟨s1, z1, rfl, e⟩
  rw [e]
  clear e h hz
  refine run_mid (fun d => ∃ y' z', d = [some (.d (.int (x : Int))), some (.d (Opd.enc y')), some (.d (.str s1.str)), some (.d (Opd.enc z'))] ∧ madePut2 x y s1 z1 = madePut3 x y' s1 z') ?_ ?_
  · unfold madePut2
    refine run_if (b := (decide (s1 = .add) || decide (s1 = .mul)) && z1.lt y) (eb_is (by walk_at "ev") (by rw [in_addmul])) (fun h => ?_) (fun h => ?_)
    · rw [if_pos h]
      exact run_par (x := z1.enc) (y := y.enc) (by walk_at "ev") (by walk_at "ev") ⟨_, _, rfl, rfl⟩
    · rw [if_neg (by rw [h]; decide)]
      apply run_next
      exact ⟨_, _, rfl, rfl⟩
  rintro _ ⟨y2, z2, rfl, e⟩
  rw [e]
  clear e
  unfold madePut3
  refine run_seq (run_if (b := comesNought y2 s1 z2) (eb_B (ed_call (es := [.d y2.enc, .d (.str s1.str), .d z2.enc]) (by walk_at "ev") ⟨_, _, _, rfl, rfl⟩)) (fun h => ?_) (fun h => ?_))
  · rw [if_pos h]
    walk_at "go"
    rfl
  rw [if_neg (by rw [h]; decide)]
  apply run_next
  show Run K _ _ _
  refine run_mid (fun d => ∃ s' z', d = [some (.d (.int (x : Int))), some (.d y2.enc), some (.d (.str (Sgn.str s'))), some (.d (Opd.enc z'))] ∧ (if ((decide (s1 = .mul) || decide (s1 = .div)) && decide (z2 = .num 1)) = true then madePut4 x y2 .add (.num 0) else madePut4 x y2 s1 z2) = madePut4 x y2 s' z') ?_ ?_
  · refine run_if (b := ((decide (s1 = .mul) || decide (s1 = .div)) && decide (z2 = .num 1))) (eb_and (eb_test (ed_is (by walk_at "ev") (by rw [in_muldiv]))) fun _ => eb_test (ed_is (ed_eqD (y := oneD) (by walk_at "ev") (by walk_at "ev") (opd_shaped _) (opd_shaped (.num 1))) (by rw [eqv_one]))) (fun h => ?_) (fun h => ?_)
    · rw [if_pos h]
      walk_at "go"
      exact ⟨.add, .num 0, rfl, rfl⟩
    · rw [if_neg (by rw [h]; decide)]
      apply run_next
      exact ⟨_, _, rfl, rfl⟩
  rintro _ ⟨s3, z3, rfl, e⟩
  rw [e]
  clear e
  unfold madePut4
  refine run_seq (run_if (b := (decide (y2 = .name x) && (decide (s3 = .add) && decide (z3 = .num 0)))) (eb_and (eb_test (ed_is (ed_eqD (y := .tuple [.str "name", .int (x : Int)]) (by walk_at "ev") (by walk_at "ev") (opd_shaped _) (opd_shaped (.name x))) (by rw [show (PyData.tuple [.str "name", .int (x : Int)]) = (Opd.name x).enc from rfl, opd_eqv])))
    fun _ => eb_and (eb_test (ed_is (by walk_at "ev") (by rw [s_add]))) fun _ => eb_test (ed_is (ed_eqD (y := nought) (by walk_at "ev") (by walk_at "ev") (opd_shaped _) (opd_shaped (.num 0))) (by rw [eqv_nought]))) (fun h => ?_) (fun h => ?_))
  · rw [if_pos h]
    walk_at "go"
    rfl
  rw [if_neg (by rw [h]; decide)]
  walk_at "go"
  rfl
abbrev sLessThan : Stmt := top 10
theorem scLessThan : FnScope ["y", "z", "t"] ["y", "z", "t"] (defScope sLessThan) := ⟨rfl, rfl, rfl, by decide +kernel, rfl, by decide +kernel, by decide +kernel⟩
def FLessThan (es : List Ent) (r : Ent) : Prop := ∃ (y z : Opd) (t : Nat), es = [.d (Opd.enc y), .d (Opd.enc z), .d (.int (t : Int))] ∧ r = .d (lessThan y z t).enc
theorem dfLessThan (G : Gs K mg aN aO tR) (D : ∃ f fd, mg "less_than" = some (.ref f) ∧ FunP K "less_than" sLessThan f fd) : Df P w K mg base "less_than" 1 ["y", "z", "t"] (spF K FLessThan) := by
  refine df_mk D scLessThan (fun _ _ _ _ _ _ us hl => match us, hl with | [_, _, _], _ => rfl) (fun es r h => ?_) fun f cdv A outer s H E hr es r hF => ⟨_, (pss_cons (ps_if (PW.pt (pw_and (pt_cmpR op_eq (pe_ix ix_tup (pv 1) pe_int (fun _ _ => rfl)) pe_str (nomark _)) (pw_and1 (pt_cmpR op_lt (pe_ix ix_tup (pv 1) pe_int (fun _ _ => rfl)) (pe_op op_sub (pe_glob (v := .int 1000000000) rfl G.reach ⟨_, rfl⟩) pe_int) (nomark _)))))
      (pss_one (ps_ret (pe_tup (pa_cons pe_str (pa_cons (pv 0) (pa_cons pe_str (pa_cons (pe_tup (pa_cons pe_str (pa_cons (pe_op op_add (pe_ix ix_tup (pv 1) pe_int (fun _ _ => rfl)) pe_int) pa_nil))) (pa_cons (pv 2) pa_nil))))))))
      pss_nil)
    (pss_cons (ps_if (PW.pt (pw_and (pt_cmpR op_eq (pe_ix ix_tup (pv 0) pe_int (fun _ _ => rfl)) pe_str (nomark _)) (pw_and1 (pt_cmpR op_gt (pe_ix ix_tup (pv 0) pe_int (fun _ _ => rfl)) (pe_op op_sub pe_int (pe_glob (v := .int 1000000000) rfl G.reach ⟨_, rfl⟩)) (nomark _)))))
      (pss_one (ps_ret (pe_tup (pa_cons pe_str (pa_cons (pe_tup (pa_cons pe_str (pa_cons (pe_op op_sub (pe_ix ix_tup (pv 0) pe_int (fun _ _ => rfl)) pe_int) pa_nil))) (pa_cons pe_str (pa_cons (pv 1) (pa_cons (pv 2) pa_nil))))))))
      pss_nil)
    (pss_one (ps_ret (pe_tup (pa_cons pe_str (pa_cons (pv 0) (pa_cons pe_str (pa_cons (pv 1) (pa_cons (pv 2) pa_nil)))))))))), ?_⟩
  · obtain ⟨y, z, t, rfl, _⟩ := h
    rfl
  obtain ⟨y, z, t, rfl, rfl⟩ := hF
  dsimp only [cxOf, Cx.nox, Cx.wish]
  unfold lessThan
  refine run_seq (run_if (b := z.isNum && decide (z.val < 999999999)) (eb_is (by walk_at "ev") (by simp [tag_num])) (fun h => ?_) (fun h => ?_))
  · rw [if_pos h]
    walk_at "go"
    rfl
  rw [if_neg (by rw [h]; decide)]
  apply run_next
  show Run K _ _ _
  refine run_seq (run_if (b := y.isNum && decide (-1000000000 < y.val)) (eb_is (by walk_at "ev") (by simp [tag_num])) (fun h => ?_) (fun h => ?_))
  · rw [if_pos h]
    walk_at "go"
    rfl
  rw [if_neg (by rw [h]; decide)]
  walk_at "go"
  rfl
theorem c_str (s t : Cmp) : decide (s.str = t.str) = decide (s = t) := by cases s <;> cases t <;> decide +kernel
theorem in_gtge (s : Cmp) : inD (.str s.str) [.str ">", .str ">="] = (decide (s = .gt) || decide (s = .ge)) := by cases s <;> decide +kernel
theorem in_eqne (s : Cmp) : inD (.str s.str) [.str "=", .str "!="] = (decide (s = .eq) || decide (s = .ne)) := by cases s <;> decide +kernel
theorem c_le (s : Cmp) : decide (s.str = Str.ofString "<=") = decide (s = .le) := c_str s .le
abbrev sMadeIf : Stmt := top 11
theorem scMadeIf : FnScope ["y", "sign", "z", "t"] ["y", "sign", "z", "t"] (defScope sMadeIf) := ⟨rfl, rfl, rfl, by decide +kernel, rfl, by decide +kernel, by decide +kernel⟩
def FMadeIf (es : List Ent) (r : Ent) : Prop := ∃ (y : Opd) (s : Cmp) (z : Opd) (t : Nat), es = [.d (Opd.enc y), .d (.str (Cmp.str s)), .d (Opd.enc z), .d (.int (t : Int))] ∧ r = .d (madeIf y s z t).enc
theorem dfMadeIf (G : Gs K mg aN aO tR) (dIsSo : Df P w K mg base "is_so" 1 ["one", "sign", "other"] (spF K FIsSo)) (dLessThan : Df P w K mg base "less_than" 1 ["y", "z", "t"] (spF K FLessThan)) (D : ∃ f fd, mg "made_if" = some (.ref f) ∧ FunP K "made_if" sMadeIf f fd) :
    Df P w K mg base "made_if" 2 ["y", "sign", "z", "t"] (spF K FMadeIf) := by
  refine df_mk D scMadeIf (fun _ _ _ _ _ _ us hl => match us, hl with | [_, _, _, _], _ => rfl) (fun es r h => ?_) fun f cdv A outer s H E hr es r hF => ⟨_, (pss_cons (ps_if (pt_cmpR op_in_seq (pv 1) (pe_tup (pa_cons pe_str (pa_cons pe_str pa_nil))) rfl)
      (pss_cons (ps_set (i := 1) scMadeIf.nd rfl (Or.inl rfl) (pe_dget (hu_of hr) (pe_disp (pps_cons pe_str pe_str (pps_cons pe_str pe_str pps_nil)) (by rfl) (by rfl) (fun z => by cases z) (by decide)) (pv 1) (fun _ _ => rfl)))
    (pss_one (ps_par (i := 0) (j := 2) (by rfl) scMadeIf.nd rfl rfl (by decide) rfl rfl (pa_cons (pv 2) (pa_cons (pv 0) pa_nil)) (by rfl))))
      pss_nil)
    (pss_cons (ps_if (PW.pt (pw_or (pt_cmpR (op_eqD hr.units) (pv 0) (pv 2) (nomark _)) (pw_or1 (PW.pt (pw_and (pt_cmpR op_eq (pe_ix ix_tup (pv 0) pe_int (fun _ _ => rfl)) pe_str (nomark _)) (pw_and1 (pt_cmpR op_eq (pe_ix ix_tup (pv 2) pe_int (fun _ _ => rfl)) pe_str (nomark _))))))))
      (pss_cons (ps_if (pt_val (pe_df dIsSo (hr.mono (by decide)) rfl (pa_cons (pe_ix ix_tup (pv 0) pe_int (fun _ _ => rfl)) (pa_cons (pv 1) (pa_cons (pe_ix ix_tup (pv 2) pe_int (fun _ _ => rfl)) pa_nil)))))
      (pss_one (ps_ret (pe_tup (pa_cons pe_str (pa_cons (pv 3) pa_nil)))))
      pss_nil)
    (pss_one (ps_ret (pe_tup (pa_cons pe_str pa_nil)))))
      pss_nil)
    (pss_cons (ps_if (PW.pt (pw_and (pt_cmpR op_in_seq (pv 1) (pe_tup (pa_cons pe_str (pa_cons pe_str pa_nil))) rfl) (pw_and1 (pt_cmpR (op_ltO (hu_of hr)) (pv 2) (pv 0) (nomark _)))))
      (pss_one (ps_par (i := 0) (j := 2) (by rfl) scMadeIf.nd rfl rfl (by decide) rfl rfl (pa_cons (pv 2) (pa_cons (pv 0) pa_nil)) (by rfl)))
      pss_nil)
    (pss_cons (ps_if (pt_cmpR op_eq (pv 1) pe_str (nomark _))
      (pss_one (ps_ret (pe_df dLessThan (hr.mono (by decide)) rfl (pa_cons (pv 0) (pa_cons (pv 2) (pa_cons (pv 3) pa_nil))))))
      pss_nil)
    (pss_one (ps_ret (pe_tup (pa_cons pe_str (pa_cons (pv 0) (pa_cons (pv 1) (pa_cons (pv 2) (pa_cons (pv 3) pa_nil)))))))))))), ?_⟩
  · obtain ⟨y, s, z, t, rfl, _⟩ := h
    rfl
  obtain ⟨y, sg, z, t, rfl, rfl⟩ := hF
  dsimp only [cxOf, Cx.nox, Cx.wish]
  refine run_mid (fun d => ∃ y' s' z', d = [some (.d (Opd.enc y')), some (.d (.str (Cmp.str s'))), some (.d (Opd.enc z')), some (.d (.int (t : Int)))] ∧ madeIf y sg z t = madeIf2 y' s' z' t) ?_ ?_
  · unfold madeIf
    refine run_if (b := decide (sg = .gt) || decide (sg = .ge)) (eb_is (by walk_at "ev") (in_gtge sg)) (fun h => ?_) (fun h => ?_)
    · rw [if_pos h]
      refine run_seq (run_asg (x := .str (flip1 sg).str) (ed_disp2 (s := sg.str) (by walk_at "ev") ?_) ?_)
      · cases sg <;> first | (exact absurd h (by decide)) | decide +kernel
      · exact run_par (x := z.enc) (y := y.enc) (by walk_at "ev") (by walk_at "ev") ⟨_, _, _, rfl, rfl⟩
    · rw [if_neg (by rw [h]; decide)]
      apply run_next
      exact ⟨_, _, _, rfl, rfl⟩
  rintro _ ⟨y1, s1, z1, rfl, e⟩
  rw [e]
  clear e
  unfold madeIf2
  refine run_seq (run_if (b := (decide (y1 = z1) || (y1.isNum && z1.isNum))) (eb_or (eb_test (ed_is (ed_eqD (x := y1.enc) (y := z1.enc) (by walk_at "ev") (by walk_at "ev") (opd_shaped _) (opd_shaped _)) (by rw [opd_eqv]))) fun _ => eb_is (by walk_at "ev") (by rw [tag_num, tag_num])) (fun h => ?_) (fun h => ?_))
  · rw [if_pos h]
    refine run_seq (run_if (b := isSo y1.val s1 z1.val) (eb_B (ed_call (es := [.d (.int y1.val), .d (.str s1.str), .d (.int z1.val)]) (by walk_at "ev") ⟨_, _, _, rfl, rfl⟩)) (fun h => ?_) (fun h => ?_))
    · rw [if_pos h]
      walk_at "go"
      rfl
    · rw [if_neg (by rw [h]; decide)]
      walk_at "go"
      rfl
  rw [if_neg (by rw [h]; decide)]
  apply run_next
  show Run K _ _ _
  refine run_mid (fun d => ∃ y' z', d = [some (.d (Opd.enc y')), some (.d (.str s1.str)), some (.d (Opd.enc z')), some (.d (.int (t : Int)))] ∧ (if ((decide (s1 = .eq) || decide (s1 = .ne)) && z1.lt y1) = true then madeIf3 z1 s1 y1 t else madeIf3 y1 s1 z1 t) = madeIf3 y' s1 z' t) ?_ ?_
  · refine run_if (b := ((decide (s1 = .eq) || decide (s1 = .ne)) && z1.lt y1)) (eb_is (by walk_at "ev") (by rw [in_eqne])) (fun h => ?_) (fun h => ?_)
    · rw [if_pos h]
      exact run_par (x := z1.enc) (y := y1.enc) (by walk_at "ev") (by walk_at "ev") ⟨_, _, rfl, rfl⟩
    · rw [if_neg (by rw [h]; decide)]
      apply run_next
      exact ⟨_, _, rfl, rfl⟩
  rintro _ ⟨y2, z2, rfl, e⟩
  rw [e]
  clear e
  unfold madeIf3
  refine run_seq (run_if (b := decide (s1 = .le)) (eb_is (by walk_at "ev") (c_le s1)) (fun h => ?_) (fun h => ?_))
  · rw [if_pos (of_decide_eq_true h)]
    walk_at "go"
    · exact ⟨_, _, _, rfl, rfl⟩
    · rfl
  rw [if_neg (of_decide_eq_false h)]
  walk_at "go"
  rfl
/-- a row of a program with so many names and rows -/
def Rw.Ok (many size : Nat) : Rw → Prop
  | .put x y _ z => x < many ∧ y.Ok many ∧ z.Ok many
  | .cond y _ z t => y.Ok many ∧ z.Ok many ∧ t ≤ size
  | .go t => t ≤ size
  | .tell y => y.Ok many
  | .skip => True
theorem n_put_if : Str.ofString "put" ≠ Str.ofString "if" := by decide +kernel
theorem n_put_go : Str.ofString "put" ≠ Str.ofString "go" := by decide +kernel
theorem n_put_tell : Str.ofString "put" ≠ Str.ofString "tell" := by decide +kernel
theorem n_put_skip : Str.ofString "put" ≠ Str.ofString "skip" := by decide +kernel
theorem n_if_put : Str.ofString "if" ≠ Str.ofString "put" := by decide +kernel
theorem n_if_go : Str.ofString "if" ≠ Str.ofString "go" := by decide +kernel
theorem n_if_tell : Str.ofString "if" ≠ Str.ofString "tell" := by decide +kernel
theorem n_if_skip : Str.ofString "if" ≠ Str.ofString "skip" := by decide +kernel
theorem n_go_put : Str.ofString "go" ≠ Str.ofString "put" := by decide +kernel
theorem n_go_if : Str.ofString "go" ≠ Str.ofString "if" := by decide +kernel
theorem n_go_tell : Str.ofString "go" ≠ Str.ofString "tell" := by decide +kernel
theorem n_go_skip : Str.ofString "go" ≠ Str.ofString "skip" := by decide +kernel
theorem n_tell_put : Str.ofString "tell" ≠ Str.ofString "put" := by decide +kernel
theorem n_tell_if : Str.ofString "tell" ≠ Str.ofString "if" := by decide +kernel
theorem n_tell_go : Str.ofString "tell" ≠ Str.ofString "go" := by decide +kernel
theorem n_tell_skip : Str.ofString "tell" ≠ Str.ofString "skip" := by decide +kernel
theorem n_skip_put : Str.ofString "skip" ≠ Str.ofString "put" := by decide +kernel
theorem n_skip_if : Str.ofString "skip" ≠ Str.ofString "if" := by decide +kernel
theorem n_skip_go : Str.ofString "skip" ≠ Str.ofString "go" := by decide +kernel
theorem n_skip_tell : Str.ofString "skip" ≠ Str.ofString "tell" := by decide +kernel
theorem sgn_ok (s : Sgn) : PyData.strOk s.str = true := by cases s <;> decide +kernel
theorem cmp_ok (s : Cmp) : PyData.strOk s.str = true := by cases s <;> decide +kernel
theorem tag_ok (y : Opd) : PyData.strOk y.tag = true := by cases y <;> (show PyData.strOk (Str.ofString _) = true; decide +kernel)
theorem rw_shaped (r : Rw) : SeqAt.shaped r.enc = true := by
  have h1 : PyData.strOk (Str.ofString "put") = true := by decide +kernel
  have h2 : PyData.strOk (Str.ofString "if") = true := by decide +kernel
  have h3 : PyData.strOk (Str.ofString "go") = true := by decide +kernel
  have h4 : PyData.strOk (Str.ofString "tell") = true := by decide +kernel
  have h5 : PyData.strOk (Str.ofString "skip") = true := by decide +kernel
  cases r <;> simp [Rw.enc, Rw.tag, Rw.args, Opd.enc, SeqAt.shaped, PyData.canLay0, PyData.canLayAll0, PyData.depth, PyData.depthAll, h1, h2, h3, h4, h5, sgn_ok, cmp_ok, tag_ok]
theorem sgn_inj {s t : Sgn} : s.str = t.str ↔ s = t := by
  constructor
  · intro h
    cases s <;> cases t <;> first | rfl | (exact absurd h (by decide +kernel))
  · intro h
    rw [h]
theorem cmp_inj {s t : Cmp} : s.str = t.str ↔ s = t := by
  constructor
  · intro h
    cases s <;> cases t <;> first | rfl | (exact absurd h (by decide +kernel))
  · intro h
    rw [h]
theorem beq_dec {a b : Bool} (h : a = true ↔ b = true) : a = b := by cases a <;> cases b <;> simp_all
theorem rw_eqv (a b : Rw) : PyData.eqv a.enc b.enc = decide (a = b) := by
  refine beq_dec ?_
  cases a <;> cases b <;> simp [Rw.enc, Rw.tag, Rw.args, PyData.eqv, PyData.eqvAll, opd_eqv, sgn_inj, cmp_inj, n_put_if, n_put_go, n_put_tell, n_put_skip, n_if_put, n_if_go, n_if_tell, n_if_skip, n_go_put, n_go_if, n_go_tell, n_go_skip, n_tell_put, n_tell_if, n_tell_go, n_tell_skip, n_skip_put, n_skip_if, n_skip_go, n_skip_tell] <;> omega
abbrev sMadeRow : Stmt := top 12
theorem scMadeRow : FnScope ["row", "k"] ["row", "k"] (defScope sMadeRow) := ⟨rfl, rfl, rfl, by decide +kernel, rfl, by decide +kernel, by decide +kernel⟩
def FMadeRow (es : List Ent) (r : Ent) : Prop := ∃ (o : Rw) (k : Nat) (m n : Nat), es = [.d (Rw.enc o), .d (.int (k : Int))] ∧ o.Ok m n ∧ r = .d (madeRow o k).enc
theorem dfMadeRow (G : Gs K mg aN aO tR) (dMadePut : Df P w K mg base "made_put" 3 ["x", "y", "sign", "z"] (spF K FMadePut)) (dMadeIf : Df P w K mg base "made_if" 2 ["y", "sign", "z", "t"] (spF K FMadeIf)) (D : ∃ f fd, mg "made_row" = some (.ref f) ∧ FunP K "made_row" sMadeRow f fd) :
    Df P w K mg base "made_row" 4 ["row", "k"] (spF K FMadeRow) := by
  refine df_mk D scMadeRow (fun _ _ _ _ _ _ us hl => match us, hl with | [_, _], _ => rfl) (fun es r h => ?_) fun f cdv A outer s H E hr es r hF => ⟨_, (pss_cons (ps_if (pt_cmpR op_eq (pe_ix ix_tup (pv 0) pe_int (fun _ _ => rfl)) pe_str (nomark _))
      (pss_one (ps_ret (pe_df dMadePut (hr.mono (by decide)) rfl (pa_cons (pe_ix ix_tup (pv 0) pe_int (fun _ _ => rfl)) (pa_cons (pe_ix ix_tup (pv 0) pe_int (fun _ _ => rfl)) (pa_cons (pe_ix ix_tup (pv 0) pe_int (fun _ _ => rfl)) (pa_cons (pe_ix ix_tup (pv 0) pe_int (fun _ _ => rfl)) pa_nil)))))))
      pss_nil)
    (pss_cons (ps_if (PW.pt (pw_and (pt_cmpR op_eq (pe_ix ix_tup (pv 0) pe_int (fun _ _ => rfl)) pe_str (nomark _)) (pw_and1 (pt_cmpR op_ne (pe_ix ix_tup (pv 0) pe_int (fun _ _ => rfl)) (pe_op op_add (pv 1) pe_int) (nomark _)))))
      (pss_one (ps_ret (pe_df dMadeIf (hr.mono (by decide)) rfl (pa_cons (pe_ix ix_tup (pv 0) pe_int (fun _ _ => rfl)) (pa_cons (pe_ix ix_tup (pv 0) pe_int (fun _ _ => rfl)) (pa_cons (pe_ix ix_tup (pv 0) pe_int (fun _ _ => rfl)) (pa_cons (pe_ix ix_tup (pv 0) pe_int (fun _ _ => rfl)) pa_nil)))))))
      pss_nil)
    (pss_cons (ps_if (PW.pt (pw_or (pt_cmpR op_eq (pe_ix ix_tup (pv 0) pe_int (fun _ _ => rfl)) pe_str (nomark _)) (pw_or1 (pt_cmpR (op_eqD hr.units) (pv 0) (pe_tup (pa_cons pe_str (pa_cons (pe_op op_add (pv 1) pe_int) pa_nil))) (nomark _)))))
      (pss_one (ps_ret (pe_tup (pa_cons pe_str pa_nil))))
      pss_nil)
    (pss_one (ps_ret (pv 0)))))), ?_⟩
  · obtain ⟨o, k, m, n, rfl, _⟩ := h
    rfl
  obtain ⟨o, k, m, n, rfl, ho, rfl⟩ := hF
  dsimp only [cxOf, Cx.nox, Cx.wish]
  cases o with
  | put x y s z =>
    generalize hR : (madeRow (.put x y s z) k).enc = R
    dsimp only [Rw.enc, Rw.tag, Rw.args]
    walk_at "go"
    · exact ⟨_, _, _, _, m, rfl, ho.2.1, ho.2.2, rfl⟩
    · exact congrArg Ent.d hR
  | cond y s z t =>
    generalize hR : (madeRow (.cond y s z t) k).enc = R
    dsimp only [Rw.enc, Rw.tag, Rw.args]
    by_cases e : t = k + 1
    · subst e
      have hR2 : R = Rw.skip.enc := by
        rw [← hR]
        exact congrArg Rw.enc (if_pos rfl)
      subst hR2
      walk_at "go" <;> first | rfl | (exfalso; simp_all [n_go_if, n_tell_if, n_skip_if]; done)
    · have e2 : ¬ (t : Int) = (k : Int) + 1 := by omega
      have hR2 : R = (madeIf y s z t).enc := by
        rw [← hR]
        exact congrArg Rw.enc (if_neg e)
      subst hR2
      walk_at "go" <;> first | exact ⟨_, _, _, _, rfl, rfl⟩ | rfl | (exfalso; simp_all [n_go_if, n_tell_if, n_skip_if]; done)
  | go t =>
    generalize hR : (madeRow (.go t) k).enc = R
    have q : PyData.eqv (.tuple [.str "go", .int (t : Int)]) (.tuple [.str "go", .int ((k : Int) + 1)]) = decide (t = k + 1) := by
      refine (rw_eqv (.go t) (.go (k + 1))).trans ?_
      simp
    dsimp only [Rw.enc, Rw.tag, Rw.args]
    by_cases e : t = k + 1
    · subst e
      have hR2 : R = Rw.skip.enc := by
        rw [← hR]
        exact congrArg Rw.enc (if_pos rfl)
      subst hR2
      walk_at "go" <;> first | exact rw_shaped (.go _) | exact rw_shaped (.go (k + 1)) | rfl | (exfalso; simp_all [n_go_if, n_tell_if, n_skip_if]; done)
    · have hR2 : R = (Rw.go t).enc := by
        rw [← hR]
        exact congrArg Rw.enc (if_neg e)
      subst hR2
      walk_at "go" <;> first | exact rw_shaped (.go _) | exact rw_shaped (.go (k + 1)) | rfl | (exfalso; simp_all [n_go_if, n_tell_if, n_skip_if]; done)
  | tell y =>
    have q : PyData.eqv (.tuple [.str "tell", y.enc]) (.tuple [.str "go", .int ((k : Int) + 1)]) = false := (rw_eqv (.tell y) (.go (k + 1))).trans (by simp)
    dsimp only [Rw.enc, Rw.tag, Rw.args]
    walk_at "go" <;> first | exact rw_shaped (.tell _) | exact rw_shaped (.go (k + 1)) | rfl | (exfalso; simp_all [n_go_if, n_tell_if, n_skip_if]; done)
  | skip =>
    have q : PyData.eqv (.tuple [.str "skip"]) (.tuple [.str "go", .int ((k : Int) + 1)]) = false := (rw_eqv .skip (.go (k + 1))).trans (by simp)
    dsimp only [Rw.enc, Rw.tag, Rw.args]
    walk_at "go" <;> first | exact rw_shaped .skip | exact rw_shaped (.go (k + 1)) | rfl | (exfalso; simp_all [n_go_if, n_tell_if, n_skip_if]; done)
end Fkh
namespace Fkh
open PySem PySem.Spec PyProof.Rows L2 Evl
local macro_rules | `(tactic| walk_at "ev") => `(tactic| first
  | ((with_reducible apply ed_var); rfl)
  | with_reducible exact ed_int
  | with_reducible exact ed_str
  | with_reducible exact ed_non
  | with_reducible exact ed_bl
  | ((with_reducible apply ed_glob); assumption)
  | with_reducible exact ea_nil
  | with_reducible exact har_nil
  | with_reducible exact ep_none
  | ((with_reducible apply er_l); rfl)
  | ((with_reducible apply er_o); rfl)
  | with_reducible exact rv_eqI
  | with_reducible exact rv_eqS
  | with_reducible exact rv_neI
  | with_reducible exact rv_neS
  | with_reducible exact rv_eqB
  | with_reducible exact rv_isN
  | with_reducible exact rv_ltO
  | with_reducible exact rv_ltOpd
  | ((with_reducible show atI _ _ = some _); first | with_reducible exact atI_cons0 | rfl)
  | ((with_reducible show CMul _ _); first | exact .inl ⟨by omega, by omega⟩ | exact .inr ⟨by omega, by omega⟩)
  | ((with_reducible show (0 : Int) < _); first | decide | omega)
  | ((with_reducible show (0 : Int) ≤ _); omega)
  | ((with_reducible show CPow _ _); exact ⟨by omega, by omega, by decide⟩)
  | ((with_reducible show Nat.ble _ _ = true); rfl)
  | ((with_reducible show flat _ = true); rfl)
  | ((with_reducible show List.all _ _ = true); rfl)
  | ((with_reducible show CDiv _ _); exact ⟨by decide, by decide⟩)
  | ((with_reducible apply ed_ixT) <;> try walk_at "ev")
  | ((with_reducible apply ed_I0) <;> try walk_at "ev")
  | ((with_reducible apply ed_B0) <;> try walk_at "ev")
  | ((with_reducible apply ed_I) <;> try walk_at "ev")
  | ((with_reducible apply ed_ixV) <;> try walk_at "ev")
  | ((with_reducible apply ed_ixL) <;> try walk_at "ev")
  | ((with_reducible apply ed_eqD) <;> try walk_at "ev")
  | ((with_reducible apply ed_neD) <;> try walk_at "ev")
  | ((with_reducible apply ed_isT) <;> try walk_at "ev")
  | ((with_reducible apply ed_niT) <;> try walk_at "ev")
  | ((with_reducible apply ed_catT) <;> try walk_at "ev")
  | ((with_reducible apply ed_repA) <;> try walk_at "ev")
  | ((with_reducible apply ed_op) <;> try walk_at "ev")
  | ((with_reducible apply ed_un) <;> try walk_at "ev")
  | ((with_reducible apply ed_slT) <;> try walk_at "ev")
  | ((with_reducible apply ep_some) <;> try walk_at "ev")
  | ((with_reducible apply ed_lenT) <;> try walk_at "ev")
  | ((with_reducible apply ed_lenL) <;> try walk_at "ev")
  | ((with_reducible apply ed_tupOf) <;> try walk_at "ev")
  | ((with_reducible apply ed_divN) <;> try walk_at "ev")
  | ((with_reducible apply ed_andF); (walk_at "ev"); decide)
  | ((with_reducible apply ed_orT); (walk_at "ev"); decide)
  | ((with_reducible apply ed_andV) <;> (try (first | ((with_reducible show _ = true → _); intro _) | ((with_reducible show _ = false → _); intro _))) <;> try walk_at "ev")
  | ((with_reducible apply ed_orV) <;> (try (first | ((with_reducible show _ = true → _); intro _) | ((with_reducible show _ = false → _); intro _))) <;> try walk_at "ev")
  | ((with_reducible apply ed_notV) <;> try walk_at "ev")
  | ((with_reducible apply ed_tupB) <;> try walk_at "ev")
  | ((with_reducible apply ea_cons) <;> try walk_at "ev")
  | ((with_reducible apply har_d) <;> try walk_at "ev")
  | ((with_reducible apply eb_test) <;> try walk_at "ev")
  | ((with_reducible apply eb_B) <;> try walk_at "ev")
  | ((with_reducible apply eb_andF); (walk_at "ev"); decide)
  | ((with_reducible apply eb_orT); (walk_at "ev"); decide)
  | ((with_reducible apply eb_and) <;> (try (first | ((with_reducible show _ = true → _); intro _) | ((with_reducible show _ = false → _); intro _))) <;> try walk_at "ev")
  | ((with_reducible apply eb_or) <;> (try (first | ((with_reducible show _ = true → _); intro _) | ((with_reducible show _ = false → _); intro _))) <;> try walk_at "ev")
  | ((with_reducible apply eb_not) <;> try walk_at "ev")
  | ((with_reducible apply ed_call) <;> try walk_at "ev"))
local macro_rules | `(tactic| walk_at "go") => `(tactic| first
  | ((with_reducible apply run_seq); walk_at "go")
  | ((with_reducible apply run_next); (try (with_reducible show Run _ _ _ _)); (try walk_at "go"))
  | ((with_reducible apply run_if); (all_goals (try walk_at "ev")); (all_goals (try (((with_reducible show _ = true → _)); intro h; first | exact absurd h (by decide) | (try walk_at "go")))); (all_goals (try (((with_reducible show _ = false → _)); intro h; first | exact absurd h (by decide) | (try walk_at "go")))))
  | ((with_reducible apply run_asg); (all_goals (try walk_at "ev")); (all_goals (try (with_reducible show Run _ _ _ _))); (all_goals (try walk_at "go")))
  | ((with_reducible apply run_asgT2); (all_goals (try walk_at "ev")); (all_goals (try (with_reducible show Run _ _ _ _))); (all_goals (try walk_at "go")))
  | ((with_reducible apply run_ret); (all_goals (try walk_at "ev"))))
variable {P : Program} {w : World} {K : Fg} {mg : Str → Option Value} {base : Heap} {aN aO : Addr} {tR : Tok}
/-! ### bits -/
theorem b_and (a b : Nat) : Builtin.bitAnd (a : Int) (b : Int) = ((a &&& b : Nat) : Int) := bitAnd_pp (by omega) (by omega)
theorem b_or (a b : Nat) : Builtin.bitOr (a : Int) (b : Int) = ((a ||| b : Nat) : Int) := Bits.bitOr_pp (by omega) (by omega)
theorem b_shl (x : Nat) : (1 : Int) * (2 : Int) ^ ((x : Int).toNat) = ((1 <<< x : Nat) : Int) := by
  rw [Int.toNat_natCast, Nat.one_shiftLeft, Int.one_mul]
  simp
theorem b_shr (b i : Nat) : (b : Int) / (2 : Int) ^ ((i : Int).toNat) = ((b >>> i : Nat) : Int) := by
  rw [Int.toNat_natCast, Nat.shiftRight_eq_div_pow]
  simp
theorem b_test (b i : Nat) : decide (Builtin.bitAnd ((b : Int) / (2 : Int) ^ ((i : Int).toNat)) 1 = 1) = b.testBit i := by
  rw [b_shr, show (1 : Int) = ((1 : Nat) : Int) from rfl, b_and, Nat.and_one_is_mod, Nat.shiftRight_eq_div_pow, Nat.testBit_eq_decide_div_mod_eq]
  congr 1
  apply propext
  omega
theorem b_drop (b x : Nat) : (b : Int) - Builtin.bitAnd (b : Int) ((1 : Int) * (2 : Int) ^ ((x : Int).toNat)) = ((b - (b &&& 1 <<< x) : Nat) : Int) := by
  rw [b_shl, b_and]
  have : b &&& 1 <<< x ≤ b := Nat.and_le_left
  omega
theorem tag_put (r : Rw) : decide (r.tag = Str.ofString "put") = r.isPut := by cases r <;> simp [Rw.tag, Rw.isPut, n_if_put, n_go_put, n_tell_put, n_skip_put]
theorem tag_if (r : Rw) : decide (r.tag = Str.ofString "if") = r.isCond := by cases r <;> simp [Rw.tag, Rw.isCond, n_put_if, n_go_if, n_tell_if, n_skip_if]
theorem tag_tell (r : Rw) : decide (r.tag = Str.ofString "tell") = r.isTell := by cases r <;> simp [Rw.tag, Rw.isTell, n_put_tell, n_if_tell, n_go_tell, n_skip_tell]
theorem put_inv {r : Rw} (h : r.isPut = true) : ∃ x y s z, r = .put x y s z := by
  cases r <;> first | (exact ⟨_, _, _, _, rfl⟩) | cases h
theorem cond_inv {r : Rw} (h : r.isCond = true) : ∃ y s z t, r = .cond y s z t := by
  cases r <;> first | (exact ⟨_, _, _, _, rfl⟩) | cases h
theorem tell_inv {r : Rw} (h : r.isTell = true) : ∃ y, r = .tell y := by
  cases r <;> first | (exact ⟨_, rfl⟩) | cases h
abbrev sRowAt : Stmt := top 14
theorem scRowAt : FnScope ["program", "k", "rows"] ["program", "k"] (defScope sRowAt) := ⟨rfl, rfl, rfl, by decide +kernel, rfl, by decide +kernel, by decide +kernel⟩
def FRowAt (es : List Ent) (r : Ent) : Prop := ∃ (p : Prog) (k : Nat) (m n : Nat), es = [.d p.enc, .d (.int (k : Int))] ∧ k ≤ p.rows.length ∧ (∀ o ∈ p.rows, o.Ok m n) ∧ r = .d (encO (rowAt p k))
theorem dfRowAt (G : Gs K mg aN aO tR) (dMadeRow : Df P w K mg base "made_row" 4 ["row", "k"] (spF K FMadeRow)) (D : ∃ f fd, mg "row_at" = some (.ref f) ∧ FunP K "row_at" sRowAt f fd) : Df P w K mg base "row_at" 5 ["program", "k"] (spF K FRowAt) := by
  refine df_mk D scRowAt (fun _ _ _ _ _ _ us hl => match us, hl with | [_, _], _ => rfl) (fun es r h => ?_) fun f cdv A outer s H E hr es r hF => ⟨_, (pss_cons (ps_set (i := 2) scRowAt.nd rfl (Or.inl rfl) (pe_ix ix_tup (pv 0) pe_int (fun _ _ => rfl)))
    (pss_cons (ps_if (pt_cmpR op_eq (pv 1) (pe_callB call_len1 (by rfl) G.len PySem.boot_len (pa_cons (pv 2) pa_nil)) (nomark _))
      (pss_one (ps_ret pe_non))
      pss_nil)
    (pss_one (ps_ret (pe_df dMadeRow (hr.mono (by decide)) rfl (pa_cons (pe_ix ix_tup (pv 2) (pv 1) (fun _ _ => rfl)) (pa_cons (pv 1) pa_nil))))))), ?_⟩
  · obtain ⟨p, k, m, n, rfl, _⟩ := h
    rfl
  obtain ⟨p, k, m, n, rfl, hk, ho, rfl⟩ := hF
  dsimp only [cxOf, Cx.nox, Cx.wish]
  refine run_seq (run_asg (x := .tuple (p.rows.map Rw.enc)) (ed_ixT (ds := [.tuple p.takes, .int (p.many : Int), .tuple (p.rows.map Rw.enc)]) (ed_var rfl) rfl) ?_)
  refine run_seq (run_if (b := decide (k = p.rows.length)) (eb_is (by walk_at "ev") (by rw [List.length_map]; congr 1; apply propext; omega)) (fun h => ?_) (fun h => ?_))
  · have e := of_decide_eq_true h
    walk_at "go"
    show Ent.d _ = Ent.d _
    rw [rowAt, List.getElem?_eq_none (by omega)]
    rfl
  · have e := of_decide_eq_false h
    have hl : k < p.rows.length := by omega
    apply run_next
    have hx : (p.rows.map Rw.enc)[k]? = some (p.rows[k]).enc := by rw [List.getElem?_map, List.getElem?_eq_getElem hl]; rfl
    refine run_ret (ed_call (es := [.d (p.rows[k]).enc, .d (.int (k : Int))]) (har_d (ed_ixV (by walk_at "ev") (by walk_at "ev") (atI_nat hx)) (by walk_at "ev")) ⟨p.rows[k], k, m, n, rfl, ho _ (List.getElem_mem hl), rfl⟩) ?_
    show Ent.d _ = Ent.d _
    rw [rowAt, List.getElem?_eq_getElem hl]
    rfl
abbrev sAgrees : Stmt := top 15
theorem scAgrees : FnScope ["operand", "bits"] ["operand", "bits"] (defScope sAgrees) := ⟨rfl, rfl, rfl, by decide +kernel, rfl, by decide +kernel, by decide +kernel⟩
def FAgrees (es : List Ent) (r : Ent) : Prop := ∃ (y : Opd) (b : Nat), es = [.d y.enc, .d (.int (b : Int))] ∧ r = .d (.bool (agrees y b))
theorem dfAgrees (G : Gs K mg aN aO tR) (D : ∃ f fd, mg "agrees" = some (.ref f) ∧ FunP K "agrees" sAgrees f fd) : Df P w K mg base "agrees" 1 ["operand", "bits"] (spF K FAgrees) := by
  refine df_mk D scAgrees (fun _ _ _ _ _ _ us hl => match us, hl with | [_, _], _ => rfl) (fun es r h => ?_) fun f cdv A outer s H E hr es r hF => ⟨_, (pss_cons (ps_if (pt_cmpR op_eq (pe_ix ix_tup (pv 0) pe_int (fun _ _ => rfl)) pe_str (nomark _))
      (pss_one (ps_ret pe_bl))
      pss_nil)
    (pss_one (ps_ret (pe_cmpR op_eq (pe_op op_and (pe_op op_shr (pv 1) (pe_ix ix_tup (pv 0) pe_int (fun _ _ => rfl))) pe_int) pe_int (nomark _))))), ?_⟩
  · obtain ⟨y, b, rfl, _⟩ := h
    rfl
  obtain ⟨y, b, rfl, rfl⟩ := hF
  dsimp only [cxOf, Cx.nox, Cx.wish]
  cases y with
  | num c =>
    dsimp only [Opd.enc, Opd.tag, Opd.val]
    walk_at "go" <;> rfl
  | name i =>
    dsimp only [Opd.enc, Opd.tag, Opd.val]
    walk_at "go"
    show Ent.d (.bool _) = Ent.d (.bool _)
    rw [b_test]
    rfl
abbrev sIsStop : Stmt := top 16
theorem scIsStop : FnScope ["row"] ["row"] (defScope sIsStop) := ⟨rfl, rfl, rfl, by decide +kernel, rfl, by decide +kernel, by decide +kernel⟩
def FIsStop (es : List Ent) (r : Ent) : Prop := ∃ (o : Option Rw), es = [.d (encO o)] ∧ r = .d (.bool (isStop o))
theorem dfIsStop (G : Gs K mg aN aO tR) (D : ∃ f fd, mg "is_stop" = some (.ref f) ∧ FunP K "is_stop" sIsStop f fd) : Df P w K mg base "is_stop" 1 ["row"] (spF K FIsStop) := by
  refine df_mk D scIsStop (fun _ _ _ _ _ _ us hl => match us, hl with | [_], _ => rfl) (fun es r h => ?_) fun f cdv A outer s H E hr es r hF => ⟨_, (pss_one (ps_ret (pe_or (pe_cmpR op_isN1 (pv 0) pe_non (nomark _)) (pe_one (pe_cmpR op_eq (pe_ix ix_tup (pv 0) pe_int (fun _ _ => rfl)) pe_str (nomark _)))))), ?_⟩
  · obtain ⟨o, rfl, _⟩ := h
    rfl
  obtain ⟨o, rfl, rfl⟩ := hF
  dsimp only [cxOf, Cx.nox, Cx.wish]
  cases o with
  | none => walk_at "go" <;> rfl
  | some o =>
    dsimp only [encO, Rw.enc]
    walk_at "go"
    show Ent.d (.bool _) = Ent.d (.bool _)
    rw [tag_tell]
    rfl
abbrev sEndAlike : Stmt := top 17
theorem scEndAlike : FnScope ["here", "there", "bits"] ["here", "there", "bits"] (defScope sEndAlike) := ⟨rfl, rfl, rfl, by decide +kernel, rfl, by decide +kernel, by decide +kernel⟩
def FEndAlike (es : List Ent) (r : Ent) : Prop := ∃ (o u : Option Rw) (b : Nat), es = [.d (encO o), .d (encO u), .d (.int (b : Int))] ∧ r = .d (.bool (endAlike o u b))
theorem dfEndAlike (G : Gs K mg aN aO tR) (dAgrees : Df P w K mg base "agrees" 1 ["operand", "bits"] (spF K FAgrees)) (D : ∃ f fd, mg "end_alike" = some (.ref f) ∧ FunP K "end_alike" sEndAlike f fd) : Df P w K mg base "end_alike" 2 ["here", "there", "bits"] (spF K FEndAlike) := by
  refine df_mk D scEndAlike (fun _ _ _ _ _ _ us hl => match us, hl with | [_, _, _], _ => rfl) (fun es r h => ?_) fun f cdv A outer s H E hr es r hF => ⟨_, (pss_cons (ps_if (PW.pt (pw_or (pt_cmpR op_isN1 (pv 0) pe_non (nomark _)) (pw_or1 (pt_cmpR op_isN1 (pv 1) pe_non (nomark _)))))
      (pss_one (ps_ret (pe_and (pe_cmpR op_isN1 (pv 0) pe_non (nomark _)) (pe_one (pe_cmpR op_isN1 (pv 1) pe_non (nomark _))))))
      pss_nil)
    (pss_cons (ps_if (PW.pt (pw_or (pt_cmpR op_ne (pe_ix ix_tup (pv 0) pe_int (fun _ _ => rfl)) pe_str (nomark _)) (pw_or1 (pt_cmpR op_ne (pe_ix ix_tup (pv 1) pe_int (fun _ _ => rfl)) pe_str (nomark _)))))
      (pss_one (ps_ret pe_bl))
      pss_nil)
    (pss_one (ps_ret (pe_and (pe_cmpR (op_eqD hr.units) (pe_ix ix_tup (pv 0) pe_int (fun _ _ => rfl)) (pe_ix ix_tup (pv 1) pe_int (fun _ _ => rfl)) (nomark _)) (pe_one (pe_df dAgrees (hr.mono (by decide)) rfl (pa_cons (pe_ix ix_tup (pv 0) pe_int (fun _ _ => rfl)) (pa_cons (pv 2) pa_nil))))))))), ?_⟩
  · obtain ⟨o, u, b, rfl, _⟩ := h
    rfl
  obtain ⟨o, u, b, rfl, rfl⟩ := hF
  dsimp only [cxOf, Cx.nox, Cx.wish]
  cases o with
  | none =>
    cases u with
    | none => walk_at "go" <;> rfl
    | some u =>
      dsimp only [encO, Rw.enc]
      walk_at "go" <;> rfl
  | some o =>
    cases u with
    | none =>
      have e : endAlike (some o) none b = false := by cases o <;> rfl
      rw [e]
      dsimp only [encO, Rw.enc]
      refine run_seq (run_if (b := true) (eb_is (by walk_at "ev") (by simp [isN])) (fun _ => ?_) (fun h => ?_))
      · walk_at "go"
        rfl
      · cases h
    | some u =>
      by_cases h1 : o.isTell = true
      · obtain ⟨y, rfl⟩ := tell_inv h1
        by_cases h2 : u.isTell = true
        · obtain ⟨z, rfl⟩ := tell_inv h2
          dsimp only [encO, Rw.enc, Rw.tag, Rw.args]
          refine run_seq (run_if (b := false) (eb_is (by walk_at "ev") (by simp [isN])) (fun h => ?_) (fun _ => ?_))
          · cases h
          apply run_next
          refine run_seq (run_if (b := false) (eb_is (by walk_at "ev") (by simp)) (fun h => ?_) (fun _ => ?_))
          · cases h
          apply run_next
          refine run_ret (x := .bool (decide (y = z) && agrees y b)) (ed_andV (ed_is (ed_eqD (x := y.enc) (y := z.enc) (by walk_at "ev") (by walk_at "ev") (opd_shaped _) (opd_shaped _)) (by rw [opd_eqv])) fun _ => ed_call (es := [.d y.enc, .d (.int (b : Int))]) (by walk_at "ev") ⟨_, _, rfl, rfl⟩) rfl
        · have h2' : u.isTell = false := by simpa using h2
          have e : endAlike (some (.tell y)) (some u) b = false := by cases u <;> first | rfl | cases h2'
          rw [e]
          dsimp only [encO, Rw.enc]
          refine run_seq (run_if (b := false) (eb_is (by walk_at "ev") (by simp [isN])) (fun h => ?_) (fun _ => ?_))
          · cases h
          apply run_next
          refine run_seq (run_if (b := true) (eb_is (by walk_at "ev") (by simp only [tag_tell, h2']; rfl)) (fun _ => ?_) (fun h => ?_))
          · walk_at "go"
            rfl
          · cases h
      · have h1' : o.isTell = false := by simpa using h1
        have e : endAlike (some o) (some u) b = false := by cases o <;> first | rfl | cases h1'
        rw [e]
        dsimp only [encO, Rw.enc]
        refine run_seq (run_if (b := false) (eb_is (by walk_at "ev") (by simp [isN])) (fun h => ?_) (fun _ => ?_))
        · cases h
        apply run_next
        refine run_seq (run_if (b := true) (eb_is (by walk_at "ev") (by simp only [tag_tell, h1']; rfl)) (fun _ => ?_) (fun h => ?_))
        · walk_at "go"
          rfl
        · cases h
abbrev sSameChoice : Stmt := top 18
theorem scSameChoice : FnScope ["here", "there", "bits"] ["here", "there", "bits"] (defScope sSameChoice) := ⟨rfl, rfl, rfl, by decide +kernel, rfl, by decide +kernel, by decide +kernel⟩
def FSameChoice (es : List Ent) (r : Ent) : Prop := ∃ (o u : Rw) (b : Nat), es = [.d o.enc, .d u.enc, .d (.int (b : Int))] ∧ r = .d (.bool (sameChoice o u b))
theorem dfSameChoice (G : Gs K mg aN aO tR) (dAgrees : Df P w K mg base "agrees" 1 ["operand", "bits"] (spF K FAgrees)) (D : ∃ f fd, mg "same_choice" = some (.ref f) ∧ FunP K "same_choice" sSameChoice f fd) : Df P w K mg base "same_choice" 2 ["here", "there", "bits"] (spF K FSameChoice) := by
  refine df_mk D scSameChoice (fun _ _ _ _ _ _ us hl => match us, hl with | [_, _, _], _ => rfl) (fun es r h => ?_) fun f cdv A outer s H E hr es r hF => ⟨_, (pss_cons (ps_if (PW.pt (pw_or (pt_cmpR op_ne (pe_ix ix_tup (pv 0) pe_int (fun _ _ => rfl)) pe_str (nomark _)) (pw_or1 (pt_cmpR op_ne (pe_ix ix_tup (pv 1) pe_int (fun _ _ => rfl)) pe_str (nomark _)))))
      (pss_one (ps_ret pe_bl))
      pss_nil)
    (pss_cons (ps_if (PW.pt (pw_or (pt_cmpR (op_neD hr.units) (pe_ix ix_tup (pv 0) pe_int (fun _ _ => rfl)) (pe_ix ix_tup (pv 1) pe_int (fun _ _ => rfl)) (nomark _)) (pw_or (pt_cmpR op_ne (pe_ix ix_tup (pv 0) pe_int (fun _ _ => rfl)) (pe_ix ix_tup (pv 1) pe_int (fun _ _ => rfl)) (nomark _)) (pw_or1 (pt_cmpR (op_neD hr.units) (pe_ix ix_tup (pv 0) pe_int (fun _ _ => rfl)) (pe_ix ix_tup (pv 1) pe_int (fun _ _ => rfl)) (nomark _))))))
      (pss_one (ps_ret pe_bl))
      pss_nil)
    (pss_one (ps_ret (pe_and (pe_df dAgrees (hr.mono (by decide)) rfl (pa_cons (pe_ix ix_tup (pv 0) pe_int (fun _ _ => rfl)) (pa_cons (pv 2) pa_nil))) (pe_one (pe_df dAgrees (hr.mono (by decide)) rfl (pa_cons (pe_ix ix_tup (pv 0) pe_int (fun _ _ => rfl)) (pa_cons (pv 2) pa_nil))))))))), ?_⟩
  · obtain ⟨o, u, b, rfl, _⟩ := h
    rfl
  obtain ⟨o, u, b, rfl, rfl⟩ := hF
  dsimp only [cxOf, Cx.nox, Cx.wish]
  by_cases h1 : o.isCond = true
  · by_cases h2 : u.isCond = true
    · obtain ⟨y, s1, z, t, rfl⟩ := cond_inv h1
      obtain ⟨y', s2, z', t', rfl⟩ := cond_inv h2
      dsimp only [Rw.enc, Rw.tag, Rw.args, sameChoice]
      refine run_seq (run_if (b := false) (eb_is (by walk_at "ev") (by simp)) (fun h => ?_) (fun _ => ?_))
      · cases h
      apply run_next
      refine run_seq (run_if (b := decide (y ≠ y' ∨ s1 ≠ s2 ∨ z ≠ z')) (eb_is (eb_or (eb_test (ed_neD (x := y.enc) (y := y'.enc) (by walk_at "ev") (by walk_at "ev") (opd_shaped _) (opd_shaped _))) fun _ => eb_or (eb_test (by walk_at "ev")) fun _ => eb_test (ed_neD (x := z.enc) (y := z'.enc) (by walk_at "ev") (by walk_at "ev") (opd_shaped _) (opd_shaped _)))
        (by rw [opd_eqv, opd_eqv, c_str]; simp)) (fun h => ?_) (fun h => ?_))
      · rw [if_pos (of_decide_eq_true h)]
        walk_at "go"
        rfl
      · rw [if_neg (of_decide_eq_false h)]
        apply run_next
        refine run_ret (ed_andV (ed_call (es := [.d y.enc, .d (.int (b : Int))]) (by walk_at "ev") ⟨_, _, rfl, rfl⟩) fun _ => ed_call (es := [.d z.enc, .d (.int (b : Int))]) (by walk_at "ev") ⟨_, _, rfl, rfl⟩) rfl
    · have h2' : u.isCond = false := by simpa using h2
      have e : sameChoice o u b = false := by cases o <;> cases u <;> first | rfl | cases h2'
      rw [e]
      dsimp only [Rw.enc]
      refine run_seq (run_if (b := true) (eb_is (by walk_at "ev") (by simp only [tag_if, h2']; simp)) (fun _ => ?_) (fun h => ?_))
      · walk_at "go"
        rfl
      · cases h
  · have h1' : o.isCond = false := by simpa using h1
    have e : sameChoice o u b = false := by cases o <;> cases u <;> first | rfl | cases h1'
    rw [e]
    dsimp only [Rw.enc]
    refine run_seq (run_if (b := true) (eb_is (by walk_at "ev") (by simp only [tag_if, h1']; simp)) (fun _ => ?_) (fun h => ?_))
    · walk_at "go"
      rfl
    · cases h
abbrev sGoesOn : Stmt := top 19
theorem scGoesOn : FnScope ["row", "k"] ["row", "k"] (defScope sGoesOn) := ⟨rfl, rfl, rfl, by decide +kernel, rfl, by decide +kernel, by decide +kernel⟩
def FGoesOn (es : List Ent) (r : Ent) : Prop := ∃ (o : Rw) (k : Nat), es = [.d o.enc, .d (.int (k : Int))] ∧ r = .o ((goesOn o k).map fun t : Nat => PyData.int (t : Int))
theorem dfGoesOn (G : Gs K mg aN aO tR) (D : ∃ f fd, mg "goes_on" = some (.ref f) ∧ FunP K "goes_on" sGoesOn f fd) : Df P w K mg base "goes_on" 1 ["row", "k"] (spF K FGoesOn) := by
  refine df_mk D scGoesOn (fun _ _ _ _ _ _ us hl => match us, hl with | [_, _], _ => rfl) (fun es r h => ?_) fun f cdv A outer s H E hr es r hF => ⟨_, (pss_cons (ps_if (pt_cmpR op_eq (pe_ix ix_tup (pv 0) pe_int (fun _ _ => rfl)) pe_str (nomark _))
      (pss_one (ps_ret (pe_lst (pa_cons (pe_ix ix_tup (pv 0) pe_int (fun _ _ => rfl)) pa_nil))))
      pss_nil)
    (pss_cons (ps_if (pt_cmpR op_eq (pe_ix ix_tup (pv 0) pe_int (fun _ _ => rfl)) pe_str (nomark _))
      (pss_one (ps_ret (pe_lst (pa_cons (pe_ix ix_tup (pv 0) pe_int (fun _ _ => rfl)) (pa_cons (pe_op op_add (pv 1) pe_int) pa_nil)))))
      pss_nil)
    (pss_one (ps_ret (pe_lst (pa_cons (pe_op op_add (pv 1) pe_int) pa_nil)))))), ?_⟩
  · obtain ⟨o, k, rfl, _⟩ := h
    rfl
  obtain ⟨o, k, rfl, rfl⟩ := hF
  dsimp only [cxOf, Cx.nox, Cx.wish]
  cases o with
  | go t =>
    dsimp only [Rw.enc, Rw.tag, Rw.args]
    refine run_seq (run_if (b := true) (eb_is (by walk_at "ev") (by decide)) (fun _ => ?_) (fun h => ?_))
    · exact run_retN (ds := [.int (t : Int)]) (en_lstB (by walk_at "ev") rfl) (by show Ent.o _ = Ent.o _; simp [goesOn])
    · cases h
  | cond y s1 z t =>
    dsimp only [Rw.enc, Rw.tag, Rw.args]
    refine run_seq (run_if (b := false) (eb_is (by walk_at "ev") (by decide)) (fun h => ?_) (fun _ => ?_))
    · cases h
    apply run_next
    refine run_seq (run_if (b := true) (eb_is (by walk_at "ev") (by decide)) (fun _ => ?_) (fun h => ?_))
    · exact run_retN (ds := [.int (t : Int), .int ((k : Int) + 1)]) (en_lstB (by walk_at "ev") rfl) (by show Ent.o _ = Ent.o _; simp [goesOn])
    · cases h
  | put x y s1 z =>
    dsimp only [Rw.enc, Rw.tag, Rw.args]
    refine run_seq (run_if (b := false) (eb_is (by walk_at "ev") (by decide)) (fun h => ?_) (fun _ => ?_))
    · cases h
    apply run_next
    refine run_seq (run_if (b := false) (eb_is (by walk_at "ev") (by decide)) (fun h => ?_) (fun _ => ?_))
    · cases h
    apply run_next
    exact run_retN (ds := [.int ((k : Int) + 1)]) (en_lstB (by walk_at "ev") rfl) (by show Ent.o _ = Ent.o _; simp [goesOn])
  | tell y =>
    dsimp only [Rw.enc, Rw.tag, Rw.args]
    refine run_seq (run_if (b := false) (eb_is (by walk_at "ev") (by decide)) (fun h => ?_) (fun _ => ?_))
    · cases h
    apply run_next
    refine run_seq (run_if (b := false) (eb_is (by walk_at "ev") (by decide)) (fun h => ?_) (fun _ => ?_))
    · cases h
    apply run_next
    exact run_retN (ds := [.int ((k : Int) + 1)]) (en_lstB (by walk_at "ev") rfl) (by show Ent.o _ = Ent.o _; simp [goesOn])
  | skip =>
    dsimp only [Rw.enc, Rw.tag, Rw.args]
    refine run_seq (run_if (b := false) (eb_is (by walk_at "ev") (by decide)) (fun h => ?_) (fun _ => ?_))
    · cases h
    apply run_next
    refine run_seq (run_if (b := false) (eb_is (by walk_at "ev") (by decide)) (fun h => ?_) (fun _ => ?_))
    · cases h
    apply run_next
    exact run_retN (ds := [.int ((k : Int) + 1)]) (en_lstB (by walk_at "ev") rfl) (by show Ent.o _ = Ent.o _; simp [goesOn])
def Rw.XOk : Rw → Prop
  | .put x _ _ _ => x ≤ 5
  | _ => True
def putBits (o : Rw) (b : Nat) : Nat := match o with
  | .put x _ _ _ => b ||| 1 <<< x
  | _ => 0
abbrev sBitsBehind : Stmt := top 20
theorem scBitsBehind : FnScope ["here", "there", "bits", "row"] ["here", "there", "bits"] (defScope sBitsBehind) := ⟨rfl, rfl, rfl, by decide +kernel, rfl, by decide +kernel, by decide +kernel⟩
def FBitsBehind (es : List Ent) (r : Ent) : Prop := ∃ (o u : Rw) (b : Nat), es = [.d o.enc, .d u.enc, .d (.int (b : Int))] ∧ o.XOk ∧ u.XOk ∧ r = .d (.int (bitsBehind o u b : Nat))
theorem dfBitsBehind (G : Gs K mg aN aO tR) (dAgrees : Df P w K mg base "agrees" 1 ["operand", "bits"] (spF K FAgrees)) (D : ∃ f fd, mg "bits_behind" = some (.ref f) ∧ FunP K "bits_behind" sBitsBehind f fd) : Df P w K mg base "bits_behind" 2 ["here", "there", "bits"] (spF K FBitsBehind) := by
  refine df_mk D scBitsBehind (fun _ _ _ _ _ _ us hl => match us, hl with | [_, _, _], _ => rfl) (fun es r h => ?_) fun f cdv A outer s H E hr es r hF => ⟨_, (pss_cons (ps_if (PW.pt (pw_and (pt_cmpR op_eq (pe_ix ix_tup (pv 0) pe_int (fun _ _ => rfl)) pe_str (nomark _)) (pw_and (pt_cmpR (op_eqD hr.units) (pv 0) (pv 1) (nomark _)) (pw_and (pt_val (pe_df dAgrees (hr.mono (by decide)) rfl (pa_cons (pe_ix ix_tup (pv 0) pe_int (fun _ _ => rfl)) (pa_cons (pv 2) pa_nil)))) (pw_and1 (pt_val (pe_df dAgrees (hr.mono (by decide)) rfl (pa_cons (pe_ix ix_tup (pv 0) pe_int (fun _ _ => rfl)) (pa_cons (pv 2) pa_nil)))))))))
      (pss_one (ps_ret (pe_op op_or (pv 2) (pe_op op_shl pe_int (pe_ix ix_tup (pv 0) pe_int (fun _ _ => rfl))))))
      pss_nil)
    (pss_cons (ps_for PassesOwn.never rfl (pi_list (pe_lst (pa_cons (pv 0) (pa_cons (pv 1) pa_nil)))) (pg_name (i := 3) scBitsBehind.nd rfl (Or.inl rfl))
      (pss_one (ps_if (pt_cmpR op_eq (pe_ix ix_tup (pv 3) pe_int (fun _ _ => rfl)) pe_str (nomark _))
      (pss_one (ps_set (i := 2) scBitsBehind.nd rfl (Or.inl rfl) (pe_op op_sub (pv 2) (pe_op op_and (pv 2) (pe_op op_shl pe_int (pe_ix ix_tup (pv 3) pe_int (fun _ _ => rfl)))))))
      pss_nil)))
    (pss_one (ps_ret (pv 2))))), ?_⟩
  · obtain ⟨o, u, b, rfl, _⟩ := h
    rfl
  obtain ⟨o, u, b, rfl, ho, hu, rfl⟩ := hF
  dsimp only [cxOf, Cx.nox, Cx.wish]
  have test : ∃ c : Bool, (c = true → bitsBehind o u b = putBits o b ∧ o.isPut = true) ∧ (c = false → bitsBehind o u b = dropX u (dropX o b)) ∧
      EvB K (tAnd (tTest (tOp rEq (tOp (rIxT K) (tVar 0) (tC (.int 0))) (tC (.str "put")))) (tAnd (tTest (tOp (rEqD K) (tVar 0) (tVar 1))) (tAnd (tB (tCall (spF K FAgrees) [] E0 (tCons (tOp (rIxT K) (tVar 0) (tC (.int 2))) (tCons (tVar 2) tNil)))) (tB (tCall (spF K FAgrees) [] E0 (tCons (tOp (rIxT K) (tVar 0) (tC (.int 4))) (tCons (tVar 2) tNil)))))))
        (env0 4 [.d o.enc, .d u.enc, .d (.int (b : Int))]) c := by
    by_cases h1 : o.isPut = true
    · obtain ⟨x, y, s1, z, rfl⟩ := put_inv h1
      refine ⟨decide (Rw.put x y s1 z = u) && (agrees y b && agrees z b), fun h => ⟨if_pos h, rfl⟩, fun h => if_neg (by rw [h]; decide), ?_⟩
      refine eb_is (eb_and (a := true) (eb_is (by dsimp only [Rw.enc, Rw.tag, Rw.args]; walk_at "ev") (by decide)) fun _ => eb_and (eb_test (ed_eqD (x := (Rw.put x y s1 z).enc) (y := u.enc) (ed_var rfl) (ed_var rfl) (rw_shaped _) (rw_shaped _))) fun _ =>
        eb_and (eb_B (ed_call (es := [.d y.enc, .d (.int (b : Int))]) (by dsimp only [Rw.enc, Rw.tag, Rw.args]; walk_at "ev") ⟨_, _, rfl, rfl⟩)) fun _ => eb_B (ed_call (es := [.d z.enc, .d (.int (b : Int))]) (by dsimp only [Rw.enc, Rw.tag, Rw.args]; walk_at "ev") ⟨_, _, rfl, rfl⟩)) (by rw [rw_eqv, Bool.true_and])
    · have h1' : o.isPut = false := by simpa using h1
      refine ⟨false, (fun h => by cases h), (fun _ => by cases o <;> first | rfl | cases h1'), eb_andF (eb_is (by dsimp only [Rw.enc]; walk_at "ev") (tag_put o)) h1'⟩
  obtain ⟨c, c1, c2, hc⟩ := test
  refine run_seq (run_if (b := c) hc (fun h => ?_) (fun h => ?_))
  · obtain ⟨e, hp⟩ := c1 h
    obtain ⟨x, y, s1, z, rfl⟩ := put_inv hp
    have hx : x ≤ 5 := ho
    rw [e]
    dsimp only [Rw.enc, Rw.tag, Rw.args]
    walk_at "go"
    show Ent.d (.int _) = Ent.d (.int _)
    rw [b_shl, b_or]
    rfl
  · rw [c2 h]
    clear hc c1 c2 h
    apply run_next
    have body : ∀ (r : Rw) (b : Nat) (d1 d2 : Option Ent) (P : Post), r.XOk → P.nx [d1, d2, some (.d (.int (dropX r b : Nat))), some (.d r.enc)] →
        Run K (tIfS (tTest (tOp rEq (tOp (rIxT K) (tVar 3) (tC (.int 0))) (tC (.str "put")))) (tAsg (tOp (rI0 fun i j => V.int (i - j)) (tVar 2) (tOp (rI0 fun i j => V.int (Builtin.bitAnd i j)) (tVar 2) (tOp (rI CPow fun i j => V.int (i * 2 ^ j.toNat)) (tC (.int 1)) (tOp (rIxT K) (tVar 3) (tC (.int 1)))))) (gName 2)) tNext) [d1, d2, some (.d (.int (b : Int))), some (.d r.enc)] P := by
      intro r b d1 d2 P hr hP
      refine run_if (b := r.isPut) (eb_is (by dsimp only [Rw.enc]; walk_at "ev") (tag_put r)) (fun h => ?_) (fun h => ?_)
      · obtain ⟨x, y, s1, z, rfl⟩ := put_inv h
        have hx : x ≤ 5 := hr
        refine run_asg (x := .int (dropX (.put x y s1 z) b : Nat)) (ed_is (by dsimp only [Rw.enc, Rw.tag, Rw.args]; walk_at "ev") ?_) hP
        exact congrArg PyData.int (b_drop b x)
      · apply run_next
        have e : dropX r b = b := by cases r <;> first | rfl | cases h
        rw [e] at hP
        exact hP
    refine run_seq (run_forN (ds := [o.enc, u.enc]) (fun i d => ∃ x, d = [some (.d o.enc), some (.d u.enc), some (.d (.int ((if i = 0 then b else if i = 1 then dropX o b else dropX u (dropX o b)) : Nat))), x]) tg_name (en_lstB (by walk_at "ev") rfl) ⟨none, rfl⟩ (fun i x d hx hd => ⟨trivial, ?_⟩) (fun d hd => ?_))
    · obtain ⟨v, rfl⟩ := hd
      match i, hx with
      | 0, hx =>
        cases hx
        exact body o b _ _ _ ho ⟨_, rfl⟩
      | 1, hx =>
        cases hx
        exact body u (dropX o b) _ _ _ hu ⟨_, rfl⟩
      | n + 2, hx => simp at hx
    · obtain ⟨v, rfl⟩ := hd
      show Run K _ _ _
      walk_at "go"
      rfl
theorem madePut_x (x : Nat) (y : Opd) (s : Sgn) (z : Opd) (h : x ≤ 5) : (madePut x y s z).XOk := by
  have h4 : ∀ y s z, (madePut4 x y s z).XOk := fun y s z => by
    unfold madePut4
    split
    · trivial
    · exact h
  have h3 : ∀ y s z, (madePut3 x y s z).XOk := fun y s z => by
    unfold madePut3
    split
    · exact h
    · split <;> exact h4 _ _ _
  have h2 : ∀ y s z, (madePut2 x y s z).XOk := fun y s z => by
    unfold madePut2
    split <;> exact h3 _ _ _
  unfold madePut
  split
  · exact h
  · split <;> exact h2 _ _ _
theorem madeIf_x (y : Opd) (s : Cmp) (z : Opd) (t : Nat) : (madeIf y s z t).XOk := by
  have h0 : ∀ y z, (lessThan y z t).XOk := fun y z => by
    unfold lessThan
    split
    · trivial
    · split <;> trivial
  have h3 : ∀ y s z, (madeIf3 y s z t).XOk := fun y s z => by
    unfold madeIf3
    split
    · exact h0 _ _
    · trivial
  have h2 : ∀ y s z, (madeIf2 y s z t).XOk := fun y s z => by
    unfold madeIf2
    split
    · split <;> trivial
    · split <;> exact h3 _ _ _
  unfold madeIf
  split <;> exact h2 _ _ _
theorem madeRow_x {r : Rw} {m n : Nat} (k : Nat) (h : r.Ok m n) (hm : m ≤ 5) : (madeRow r k).XOk := by
  cases r with
  | put x y s z => exact madePut_x x y s z (Nat.le_trans (Nat.le_of_lt h.1) hm)
  | cond y s z t =>
    show (if t = k + 1 then Rw.skip else madeIf y s z t).XOk
    split
    · trivial
    · exact madeIf_x _ _ _ _
  | go t =>
    show (if t = k + 1 then Rw.skip else Rw.go t).XOk
    split <;> trivial
  | tell y => trivial
  | skip => trivial
/-- a program whose rows are in order -/
def Prog.Ok (p : Prog) : Prop := p.many ≤ 5 ∧ p.rows.length ≤ 12 ∧ p.taken ≤ p.many ∧ ∀ o ∈ p.rows, o.Ok p.many p.rows.length
theorem rowAt_x {p : Prog} (h : p.Ok) {k : Nat} {r : Rw} (e : rowAt p k = some r) : r.XOk := by
  unfold rowAt at e
  cases q : p.rows[k]? with
  | none => rw [q] at e; cases e
  | some o =>
    rw [q] at e
    cases e
    exact madeRow_x k (h.2.2.2 o (List.mem_of_getElem? q)) (Nat.le_trans h.1 (by decide))
theorem flat_len {α β γ : Type} (f : α → β → γ) (ms : List β) : ∀ l : List α, (l.flatMap fun a => ms.map (f a)).length = l.length * ms.length
  | [] => by simp
  | a :: l => by
    rw [List.flatMap_cons, List.length_append, List.length_map, flat_len f ms l, List.length_cons, Nat.succ_mul, Nat.add_comm]
theorem goesOn_len (r : Rw) (k : Nat) : (goesOn r k).length ≤ 2 := by cases r <;> simp [goesOn]
def encF : Option (List Tri) → PyData
  | none => .none
  | some l => .tuple (l.map encT)
abbrev sFollow : Stmt := top 21
theorem scFollow : FnScope ["one", "other", "k", "j", "bits", "here", "there", "left", "found", "at", "to"] ["one", "other", "k", "j", "bits"] (defScope sFollow) := ⟨rfl, rfl, rfl, by decide +kernel, rfl, by decide +kernel, by decide +kernel⟩
def FFollow (es : List Ent) (r : Ent) : Prop := ∃ (p q : Prog) (k j b : Nat), es = [.d p.enc, .d q.enc, .d (.int (k : Int)), .d (.int (j : Int)), .d (.int (b : Int))] ∧ p.Ok ∧ q.Ok ∧ k ≤ p.rows.length ∧ j ≤ q.rows.length ∧ r = .d (encF (follow p q k j b))
theorem dfFollow (G : Gs K mg aN aO tR) (dRowAt : Df P w K mg base "row_at" 5 ["program", "k"] (spF K FRowAt)) (dIsStop : Df P w K mg base "is_stop" 1 ["row"] (spF K FIsStop)) (dEndAlike : Df P w K mg base "end_alike" 2 ["here", "there", "bits"] (spF K FEndAlike))
    (dSameChoice : Df P w K mg base "same_choice" 2 ["here", "there", "bits"] (spF K FSameChoice)) (dBitsBehind : Df P w K mg base "bits_behind" 2 ["here", "there", "bits"] (spF K FBitsBehind)) (dGoesOn : Df P w K mg base "goes_on" 1 ["row", "k"] (spF K FGoesOn))
    (D : ∃ f fd, mg "follow" = some (.ref f) ∧ FunP K "follow" sFollow f fd) : Df P w K mg base "follow" 6 ["one", "other", "k", "j", "bits"] (spF K FFollow) := by
  refine df_mk D scFollow (fun _ _ _ _ _ _ us hl => match us, hl with | [_, _, _, _, _], _ => rfl) (fun es r h => ?_) fun f cdv A outer s H E hr es r hF => ⟨_, (pss_cons (ps_set (i := 5) scFollow.nd rfl (Or.inl rfl) (pe_df dRowAt (hr.mono (by decide)) rfl (pa_cons (pv 0) (pa_cons (pv 2) pa_nil))))
    (pss_cons (ps_set (i := 6) scFollow.nd rfl (Or.inl rfl) (pe_df dRowAt (hr.mono (by decide)) rfl (pa_cons (pv 1) (pa_cons (pv 3) pa_nil))))
    (pss_cons (ps_if (PW.pt (pw_or (pt_val (pe_df dIsStop (hr.mono (by decide)) rfl (pa_cons (pv 5) pa_nil))) (pw_or1 (pt_val (pe_df dIsStop (hr.mono (by decide)) rfl (pa_cons (pv 6) pa_nil))))))
      (pss_cons (ps_if (pt_val (pe_df dEndAlike (hr.mono (by decide)) rfl (pa_cons (pv 5) (pa_cons (pv 6) (pa_cons (pv 4) pa_nil)))))
      (pss_one (ps_ret (pe_tup pa_nil)))
      pss_nil)
    (pss_one (ps_ret pe_non)))
      pss_nil)
    (pss_cons (ps_if (pt_val (pe_df dSameChoice (hr.mono (by decide)) rfl (pa_cons (pv 5) (pa_cons (pv 6) (pa_cons (pv 4) pa_nil)))))
      (pss_one (ps_ret (pe_tup (pa_cons (pe_tup (pa_cons (pe_ix ix_tup (pv 5) pe_int (fun _ _ => rfl)) (pa_cons (pe_ix ix_tup (pv 6) pe_int (fun _ _ => rfl)) (pa_cons (pv 4) pa_nil)))) (pa_cons (pe_tup (pa_cons (pe_op op_add (pv 2) pe_int) (pa_cons (pe_op op_add (pv 3) pe_int) (pa_cons (pv 4) pa_nil)))) pa_nil)))))
      pss_nil)
    (pss_cons (ps_set (i := 7) scFollow.nd rfl (Or.inl rfl) (pe_df dBitsBehind (hr.mono (by decide)) rfl (pa_cons (pv 5) (pa_cons (pv 6) (pa_cons (pv 4) pa_nil)))))
    (pss_cons (ps_set (i := 8) scFollow.nd rfl (Or.inl rfl) (pe_lst pa_nil))
    (pss_cons (ps_for PassesOwn.never rfl (pi_list (pe_df dGoesOn (hr.mono (by decide)) rfl (pa_cons (pv 5) (pa_cons (pv 2) pa_nil)))) (pg_name (i := 9) scFollow.nd rfl (Or.inl rfl))
      (pss_one (ps_for PassesOwn.never rfl (pi_list (pe_df dGoesOn (hr.mono (by decide)) rfl (pa_cons (pv 6) (pa_cons (pv 3) pa_nil)))) (pg_name (i := 10) scFollow.nd rfl (Or.inl rfl))
      (pss_one (ps_expr (pe_bm PySem.F.plainAttrs_list PySem.F.slot_list_append PySem.F.type_list_append mt_append (pv 8) (pa_cons (pe_tup (pa_cons (pv 9) (pa_cons (pv 10) (pa_cons (pv 7) pa_nil)))) pa_nil)))))))
    (pss_one (ps_ret (pe_callTy call_tup1 (by rfl) G.tuple (by decide +kernel) (pa_cons (pv 8) pa_nil))))))))))), ?_⟩
  · obtain ⟨p, q, k, j, b, rfl, _⟩ := h
    rfl
  obtain ⟨p, q, k, j, b, rfl, hp, hq, hk, hj, rfl⟩ := hF
  dsimp only [cxOf, Cx.nox, Cx.wish]
  refine run_seq (run_asg (x := encO (rowAt p k)) (ed_call (es := [.d p.enc, .d (.int (k : Int))]) (by walk_at "ev") ⟨p, k, _, _, rfl, hk, hp.2.2.2, rfl⟩) ?_)
  refine run_seq (run_asg (x := encO (rowAt q j)) (ed_call (es := [.d q.enc, .d (.int (j : Int))]) (by walk_at "ev") ⟨q, j, _, _, rfl, hj, hq.2.2.2, rfl⟩) ?_)
  generalize hh : rowAt p k = o
  generalize ht : rowAt q j = u
  refine run_seq (run_if (b := isStop o || isStop u) (eb_or (eb_B (ed_call (es := [.d (encO o)]) (by walk_at "ev") ⟨_, rfl, rfl⟩)) fun _ => eb_B (ed_call (es := [.d (encO u)]) (by walk_at "ev") ⟨_, rfl, rfl⟩)) (fun h => ?_) (fun h => ?_))
  · have e : follow p q k j b = if endAlike o u b = true then some [] else none := by
      unfold follow
      rw [hh, ht]
      exact if_pos h
    rw [e]
    refine run_seq (run_if (b := endAlike o u b) (eb_B (ed_call (es := [.d (encO o), .d (encO u), .d (.int (b : Int))]) (by walk_at "ev") ⟨_, _, _, rfl, rfl⟩)) (fun h => ?_) (fun h => ?_))
    · rw [if_pos h]
      walk_at "go"
      rfl
    · rw [if_neg (by rw [h]; decide)]
      walk_at "go"
      rfl
  apply run_next
  show Run K _ _ _
  cases o with
  | none => cases h
  | some o =>
    cases u with
    | none =>
      rw [Bool.or_eq_false_iff] at h
      cases h.2
    | some u =>
      have hox := rowAt_x hp hh
      have hux := rowAt_x hq ht
      have e : follow p q k j b = if sameChoice o u b = true then some [(o.to, u.to, b), (k + 1, j + 1, b)] else some ((goesOn o k).flatMap fun a => (goesOn u j).map fun c => (a, c, bitsBehind o u b)) := by
        unfold follow
        rw [hh, ht]
        exact if_neg (by rw [h]; decide)
      rw [e]
      clear e h hh ht
      dsimp only [encO]
      refine run_seq (run_if (b := sameChoice o u b) (eb_B (ed_call (es := [.d o.enc, .d u.enc, .d (.int (b : Int))]) (by walk_at "ev") ⟨_, _, _, rfl, rfl⟩)) (fun h => ?_) (fun h => ?_))
      · rw [if_pos h]
        have h1 : o.isCond = true := by
          cases o <;> cases u <;> first | rfl | cases h
        have h2 : u.isCond = true := by
          cases o <;> cases u <;> first | rfl | cases h
        obtain ⟨y, s1, z, t, rfl⟩ := cond_inv h1
        obtain ⟨y', s2, z', t', rfl⟩ := cond_inv h2
        dsimp only [Rw.enc, Rw.tag, Rw.args, Rw.to]
        walk_at "go"
        show Ent.d _ = Ent.d _
        simp [encF, encT]
      · rw [if_neg (by rw [h]; decide)]
        apply run_next
        show Run K _ _ _
        refine run_seq (run_asg (x := .int (bitsBehind o u b : Nat)) (ed_call (es := [.d o.enc, .d u.enc, .d (.int (b : Int))]) (by walk_at "ev") ⟨_, _, _, rfl, hox, hux, rfl⟩) ?_)
        refine run_seq (run_asgN (ds := []) (en_lstB (by walk_at "ev") rfl) ?_)
        generalize bitsBehind o u b = left
        have hol := goesOn_len o k
        have hul := goesOn_len u j
        let base0 : Env := [some (.d p.enc), some (.d q.enc), some (.d (.int (k : Int))), some (.d (.int (j : Int))), some (.d (.int (b : Int))), some (.d o.enc), some (.d u.enc), some (.d (.int (left : Int)))]
        let out : Nat → List Tri := fun i => ((goesOn o k).take i).flatMap fun a => (goesOn u j).map fun c => (a, c, left)
        have hout : ∀ i, (out i).length ≤ 4 := fun i => by
          have e1 := flat_len (fun a c => ((a, c, left) : Tri)) (goesOn u j) ((goesOn o k).take i)
          have e2 : ((goesOn o k).take i).length ≤ 2 := by
            rw [List.length_take]
            omega
          have e3 : ((goesOn o k).take i).length * (goesOn u j).length ≤ 2 * 2 := Nat.mul_le_mul e2 hul
          show (((goesOn o k).take i).flatMap fun a => (goesOn u j).map fun c => (a, c, left)).length ≤ 4
          rw [e1]
          exact e3
        refine run_seq (run_forN (ds := (goesOn o k).map fun t : Nat => PyData.int (t : Int)) (fun i d => ∃ x y, d = base0 ++ [some (.o ((out i).map encT)), x, y]) tg_name (en_call (es := [.d o.enc, .d (.int (k : Int))]) (by walk_at "ev") ⟨_, _, rfl, rfl⟩) ⟨none, none, rfl⟩ (fun i x d hx hd => ⟨trivial, ?_⟩) (fun d hd => ?_))
        · obtain ⟨x1, y1, rfl⟩ := hd
          rw [List.getElem?_map] at hx
          cases hga : (goesOn o k)[i]? with
          | none => rw [hga] at hx; cases hx
          | some a =>
            rw [hga] at hx
            cases hx
            let inn : Nat → List Tri := fun n => out i ++ ((goesOn u j).take n).map fun c => (a, c, left)
            refine run_forN (ds := (goesOn u j).map fun t : Nat => PyData.int (t : Int)) (fun n d => ∃ y, d = base0 ++ [some (.o ((inn n).map encT)), some (.d (.int (a : Int))), y]) tg_name (en_call (es := [.d u.enc, .d (.int (j : Int))]) (by
              dsimp only [base0, List.append]
              walk_at "ev") ⟨_, _, rfl, rfl⟩) ⟨y1, by simp only [inn, List.take_zero, List.map_nil, List.append_nil]; rfl⟩ (fun n x d hx hd => ⟨trivial, ?_⟩) (fun d hd => ?_)
            · obtain ⟨y2, rfl⟩ := hd
              rw [List.getElem?_map] at hx
              cases hgc : (goesOn u j)[n]? with
              | none => rw [hgc] at hx; cases hx
              | some c =>
                rw [hgc] at hx
                cases hx
                refine run_app (i := 8) (ds := (inn n).map encT) (x := encT (a, c, left)) rfl (ed_tupB (ds := [.int (a : Int), .int (c : Int), .int (left : Int)]) (by walk_at "ev") rfl) ?_ ?_
                · have e1 := hout i
                  have e2 : ((goesOn u j).take n).length ≤ 2 := by
                    rw [List.length_take]
                    omega
                  simp only [inn, List.length_map, List.length_append]
                  omega
                · refine ⟨some (.d (.int (c : Int))), ?_⟩
                  have e1 : inn (n + 1) = inn n ++ [(a, c, left)] := by
                    simp only [inn]
                    rw [List.take_add_one, hgc, List.map_append, List.append_assoc]
                    rfl
                  have e3 : (inn n ++ [(a, c, left)]).map encT = (inn n).map encT ++ [encT (a, c, left)] := List.map_append
                  rw [e1, e3]
                  rfl
            · obtain ⟨y2, rfl⟩ := hd
              refine ⟨some (.d (.int (a : Int))), y2, ?_⟩
              have e1 : inn ((goesOn u j).map fun t : Nat => PyData.int (t : Int)).length = out (i + 1) := by
                simp only [inn, out]
                rw [List.length_map, List.take_length, List.take_add_one, hga, List.flatMap_append]
                congr 1
                show _ = List.flatMap _ [a]
                rw [List.flatMap_cons]
                simp
              rw [e1]
        · obtain ⟨x, y, rfl⟩ := hd
          show Run K _ _ _
          refine run_ret (ed_tupOf (er_o rfl)) ?_
          show Ent.d _ = Ent.d _
          rw [List.length_map]
          simp only [out, List.take_length]
          rfl
end Fkh
/-! what is known of the pairs: a dict, as pure data -/
namespace Fkh
open PySem L2
theorem ck_inj {a b : Nat × Nat} : ck a = ck b ↔ a = b := by
  constructor
  · intro e
    have e1 := congrArg Prod.fst e
    have e2 := congrArg Prod.snd e
    simp only [ck] at e1 e2
    exact Prod.ext (by omega) (by omega)
  · intro e
    rw [e]
theorem getK_ck (k : Nat × Nat) : ∀ kn : Kn, getK (toKvs kn) (ck k) = (getN kn k).map fun n : Nat => (n : Int)
  | [] => rfl
  | p :: r => by
    show (if ck p.1 = ck k then some (p.2 : Int) else getK (toKvs r) (ck k)) = Option.map _ (if p.1 = k then some p.2 else getN r k)
    by_cases e : p.1 = k
    · rw [if_pos e, if_pos (ck_inj.mpr e)]
      rfl
    · rw [if_neg e, if_neg (fun z => e (ck_inj.mp z)), getK_ck k r]
theorem any_ck (k : Nat × Nat) : ∀ kn : Kn, ((toKvs kn).any fun p => decide (p.1 = ck k)) = kn.any fun p => decide (p.1 = k)
  | [] => rfl
  | p :: r => by
    show (decide (ck p.1 = ck k) || (toKvs r).any fun p => decide (p.1 = ck k)) = (decide (p.1 = k) || r.any fun p => decide (p.1 = k))
    rw [any_ck k r]
    congr 1
    by_cases e : p.1 = k
    · rw [decide_eq_true e, decide_eq_true (ck_inj.mpr e)]
    · rw [decide_eq_false e, decide_eq_false (fun z => e (ck_inj.mp z))]
theorem map_ck (k : Nat × Nat) (v : Nat) : ∀ kn : Kn, (toKvs kn).map (fun p => if p.1 = ck k then (p.1, (v : Int)) else p) = toKvs (kn.map fun p => if p.1 = k then (p.1, v) else p)
  | [] => rfl
  | p :: r => by
    show (if ck p.1 = ck k then (ck p.1, (v : Int)) else (ck p.1, (p.2 : Int))) :: (toKvs r).map _ = (ck (if p.1 = k then (p.1, v) else p).1, ((if p.1 = k then (p.1, v) else p).2 : Int)) :: toKvs (r.map _)
    rw [map_ck k v r]
    congr 1
    by_cases e : p.1 = k
    · rw [if_pos e, if_pos (ck_inj.mpr e)]
    · rw [if_neg e, if_neg (fun z => e (ck_inj.mp z))]
theorem put_ck (kn : Kn) (k : Nat × Nat) (v : Nat) : putD (toKvs kn) (ck k) (v : Int) = toKvs (putN kn k v) := by
  unfold putD putN
  rw [any_ck]
  by_cases h : (kn.any fun p => decide (p.1 = k)) = true
  · rw [if_pos h, if_pos h, map_ck]
  · rw [if_neg h, if_neg h]
    unfold toKvs
    rw [List.map_append] <;> rfl
theorem toKvs_len (kn : Kn) : (toKvs kn).length = kn.length := List.length_map _
theorem getN_cons (p : (Nat × Nat) × Nat) (r : Kn) (k : Nat × Nat) : getN (p :: r) k = if p.1 = k then some p.2 else getN r k := rfl
theorem getN_mem {k : Nat × Nat} {b : Nat} : ∀ {kn : Kn}, getN kn k = some b → (k, b) ∈ kn
  | p :: r, h => by
    unfold getN at h
    by_cases e : p.1 = k
    · rw [if_pos e] at h
      cases h
      subst e
      exact List.mem_cons_self
    · rw [if_neg e] at h
      exact List.mem_cons_of_mem _ (getN_mem h)
theorem getN_any {k : Nat × Nat} : ∀ {kn : Kn}, (kn.any fun p => decide (p.1 = k)) = (getN kn k).isSome
  | [] => rfl
  | p :: r => by
    rw [List.any_cons, getN_any (kn := r), getN_cons]
    by_cases e : p.1 = k
    · rw [if_pos e, decide_eq_true e]
      rfl
    · rw [if_neg e, decide_eq_false e]
      rfl
theorem getN_map {k x : Nat × Nat} {v : Nat} : ∀ {kn : Kn}, getN (kn.map fun p => if p.1 = k then (p.1, v) else p) x = if k = x then (if (getN kn x).isSome = true then some v else none) else getN kn x
  | [] => by simp [getN]
  | p :: r => by
    rw [List.map_cons]
    have ih := getN_map (k := k) (x := x) (v := v) (kn := r)
    unfold getN
    rw [ih]
    by_cases e : p.1 = k
    · rw [if_pos e]
      by_cases ex : k = x
      · simp [e, ex]
      · have : ¬ p.1 = x := fun z => ex (e ▸ z)
        simp [this, ex]
    · rw [if_neg e]
      by_cases ex : k = x
      · have : ¬ p.1 = x := fun z => e (z.trans ex.symm)
        simp [this, ex]
      · simp [ex]
theorem getN_app {kn kn' : Kn} {x : Nat × Nat} : getN (kn ++ kn') x = (getN kn x).or (getN kn' x) := by
  induction kn with
  | nil => rfl
  | cons p r ih =>
    rw [List.cons_append, getN_cons, getN_cons, ih]
    split <;> rfl
theorem getN_put (kn : Kn) (k x : Nat × Nat) (v : Nat) : getN (putN kn k v) x = if k = x then some v else getN kn x := by
  unfold putN
  rw [getN_any]
  cases hs : (getN kn k).isSome with
  | true =>
    rw [if_pos rfl, getN_map]
    by_cases e : k = x
    · subst e
      rw [if_pos rfl, if_pos rfl, hs, if_pos rfl]
    · rw [if_neg e, if_neg e]
  | false =>
    rw [if_neg (by decide), getN_app]
    have hn : getN kn k = none := by simpa using hs
    by_cases e : k = x
    · subst e
      rw [if_pos rfl, hn]
      simp [getN]
    · rw [if_neg e]
      cases getN kn x <;> simp [getN, e]
theorem put_len (kn : Kn) (k : Nat × Nat) (v : Nat) : (putN kn k v).length = if (getN kn k).isSome = true then kn.length else kn.length + 1 := by
  unfold putN
  rw [getN_any]
  split
  · rw [List.length_map]
  · rw [List.length_append] <;> rfl
/-! ### the measure -/
def wt : Option Nat → Nat
  | none => 64
  | some b => b
def Ms (kn : Kn) : Nat := ((List.range 169).map fun c => wt (getN kn (c / 13, c % 13))).sum
theorem sum_le {α : Type} {f g : α → Nat} : ∀ {l : List α}, (∀ x ∈ l, g x ≤ f x) → (l.map g).sum ≤ (l.map f).sum
  | [], _ => Nat.le_refl _
  | a :: l, h => by
    rw [List.map_cons, List.map_cons, List.sum_cons, List.sum_cons]
    exact Nat.add_le_add (h a List.mem_cons_self) (sum_le fun x hx => h x (List.mem_cons_of_mem _ hx))
theorem sum_lt {α : Type} {f g : α → Nat} : ∀ {l : List α}, (∀ x ∈ l, g x ≤ f x) → (∃ x ∈ l, g x < f x) → (l.map g).sum < (l.map f).sum
  | [], _, ⟨x, hx, _⟩ => by cases hx
  | a :: l, h, ⟨x, hx, hl⟩ => by
    rw [List.map_cons, List.map_cons, List.sum_cons, List.sum_cons]
    have h1 := h a List.mem_cons_self
    have h2 := sum_le (f := f) (g := g) fun x hx => h x (List.mem_cons_of_mem _ hx)
    rcases List.mem_cons.mp hx with rfl | hx
    · omega
    · have := sum_lt (fun x hx => h x (List.mem_cons_of_mem _ hx)) ⟨x, hx, hl⟩
      omega
def Uni (x : Nat × Nat) (b : Nat) : Prop := x.1 ≤ 12 ∧ x.2 ≤ 12 ∧ b < 64
theorem ms_put {kn : Kn} {k : Nat × Nat} {v : Nat} (hk : Uni k v) (hv : v < wt (getN kn k)) : Ms (putN kn k v) < Ms kn := by
  obtain ⟨h1, h2, h3⟩ := hk
  refine sum_lt (fun c _ => ?_) ⟨k.1 * 13 + k.2, List.mem_range.mpr (by omega), ?_⟩
  · rw [getN_put]
    split
    · rename_i e
      subst e
      exact Nat.le_of_lt hv
    · exact Nat.le_refl _
  · have e : ((k.1 * 13 + k.2) / 13, (k.1 * 13 + k.2) % 13) = k := Prod.ext (by show (k.1 * 13 + k.2) / 13 = k.1; omega) (by show (k.1 * 13 + k.2) % 13 = k.2; omega)
    rw [e, getN_put, if_pos rfl]
    exact hv
theorem ms_top (kn : Kn) (h : ∀ x b, getN kn x = some b → Uni x b) : Ms kn ≤ 169 * 64 := by
  have h1 : Ms kn ≤ ((List.range 169).map fun _ => 64).sum := sum_le fun c _ => by
    cases e : getN kn (c / 13, c % 13) with
    | none => exact Nat.le_refl _
    | some b => exact Nat.le_of_lt (h _ _ e).2.2
  exact Nat.le_trans h1 (by decide)
/-! ### taken in -/
def key (f : Tri) : Nat × Nat := (f.1, f.2.1)
structure Took (kn0 kn : Kn) (ch : List (Nat × Nat)) (fs : List Tri) : Prop where
  low : ∀ x b, getN kn0 x = some b → ∃ b', getN kn x = some b' ∧ b' &&& b = b'
  same : ∀ x, x ∉ ch → getN kn x = getN kn0 x
  known : ∀ x, x ∈ ch → ∃ b, getN kn x = some b
  gone : ∀ f ∈ fs, ∃ b, getN kn (key f) = some b ∧ b &&& f.2.2 = b
  pred : ∀ Q : Nat × Nat → Nat → Prop, (∀ x b c, Q x b → Q x c → Q x (b &&& c)) → (∀ x b, getN kn0 x = some b → Q x b) → (∀ f ∈ fs, Q (key f) f.2.2) → ∀ x b, getN kn x = some b → Q x b
  ms : Ms kn + ch.length ≤ Ms kn0
  len : kn.length + Ms kn ≤ kn0.length + Ms kn0
theorem and_self_of {a b c : Nat} (h : a &&& b = a) (h2 : c &&& a = c) : c &&& b = c := by
  rw [← h2, Nat.and_assoc, h]
theorem took_put {kn0 kn : Kn} {ch : List (Nat × Nat)} {fs : List Tri} {f : Tri} {v : Nat} (T : Took kn0 kn ch fs) (hu : Uni (key f) v) (hv : v < wt (getN kn (key f))) (hf : v &&& f.2.2 = v)
    (ho : ∀ b, getN kn (key f) = some b → v &&& b = v) (hp : ∀ Q : Nat × Nat → Nat → Prop, (∀ x b c, Q x b → Q x c → Q x (b &&& c)) → (∀ b, getN kn (key f) = some b → Q (key f) b) → Q (key f) f.2.2 → Q (key f) v) :
    Took kn0 (putN kn (key f) v) (ch ++ [key f]) (fs ++ [f]) := by
  have low1 : ∀ x b, getN kn x = some b → ∃ b', getN (putN kn (key f) v) x = some b' ∧ b' &&& b = b' := fun x b h => by
    rw [getN_put]
    split
    · rename_i e
      subst e
      exact ⟨v, rfl, ho b h⟩
    · exact ⟨b, h, Nat.and_self b⟩
  have mm := ms_put hu hv
  refine ⟨fun x b h => ?_, fun x h => ?_, fun x h => ?_, fun g hg => ?_, fun Q hQ h0 hfs x b h => ?_, ?_, ?_⟩
  · obtain ⟨b1, h1, h2⟩ := T.low x b h
    obtain ⟨b2, h3, h4⟩ := low1 x b1 h1
    exact ⟨b2, h3, and_self_of h2 h4⟩
  · rw [getN_put, if_neg (fun e => h (List.mem_append_right _ (by rw [e]; exact List.mem_cons_self)))]
    exact T.same x fun z => h (List.mem_append_left _ z)
  · rw [getN_put]
    split
    · exact ⟨v, rfl⟩
    · rename_i e
      rcases List.mem_append.mp h with h | h
      · exact T.known x h
      · rw [List.mem_singleton] at h
        exact absurd h.symm e
  · rcases List.mem_append.mp hg with hg | hg
    · obtain ⟨b1, h1, h2⟩ := T.gone g hg
      obtain ⟨b2, h3, h4⟩ := low1 _ b1 h1
      exact ⟨b2, h3, and_self_of h2 h4⟩
    · rw [List.mem_singleton] at hg
      subst hg
      rw [getN_put, if_pos rfl]
      exact ⟨v, rfl, hf⟩
  · have old := T.pred Q hQ h0 fun g hg => hfs g (List.mem_append_left _ hg)
    rw [getN_put] at h
    split at h
    · rename_i e
      cases h
      subst e
      exact hp Q hQ (fun b hb => old _ b hb) (hfs f (List.mem_append_right _ List.mem_cons_self))
    · exact old x b h
  · have := T.ms
    rw [List.length_append, List.length_singleton]
    omega
  · have := T.len
    rw [put_len]
    split <;> omega
theorem took_step {kn0 kn : Kn} {ch : List (Nat × Nat)} {fs : List Tri} {f : Tri} (T : Took kn0 kn ch fs) (hu : Uni (key f) f.2.2) (hk : ∀ x b, getN kn x = some b → Uni x b) : Took kn0 (takeStep (kn, ch) f).1 (takeStep (kn, ch) f).2 (fs ++ [f]) := by
  unfold takeStep
  show Took kn0 (match getN kn (key f) with | none => _ | some old => _ : Kn × List (Nat × Nat)).1 (match getN kn (key f) with | none => _ | some old => _ : Kn × List (Nat × Nat)).2 _
  cases e : getN kn (key f) with
  | none => exact took_put T hu (by rw [e]; exact hu.2.2) (Nat.and_self _) (fun b h => by rw [e] at h; cases h) fun Q _ _ h => h
  | some old =>
    have ho := hk _ _ e
    by_cases h : old &&& f.2.2 = old
    · show Took kn0 (if old &&& f.2.2 ≠ old then _ else (kn, ch)).1 (if old &&& f.2.2 ≠ old then _ else (kn, ch)).2 _
      rw [if_neg (fun z => z h)]
      refine ⟨T.low, T.same, T.known, fun g hg => ?_, fun Q hQ h0 hfs => T.pred Q hQ h0 fun g hg => hfs g (List.mem_append_left _ hg), T.ms, T.len⟩
      rcases List.mem_append.mp hg with hg | hg
      · exact T.gone g hg
      · rw [List.mem_singleton] at hg
        subst hg
        exact ⟨old, e, h⟩
    · show Took kn0 (if old &&& f.2.2 ≠ old then (putN kn (key f) (old &&& f.2.2), ch ++ [key f]) else (kn, ch)).1 (if old &&& f.2.2 ≠ old then (putN kn (key f) (old &&& f.2.2), ch ++ [key f]) else (kn, ch)).2 _
      rw [if_pos h]
      have hle : old &&& f.2.2 ≤ old := Nat.and_le_left
      refine took_put T ⟨ho.1, ho.2.1, Nat.lt_of_le_of_lt hle ho.2.2⟩ (by rw [e]; exact Nat.lt_of_le_of_ne hle h) (by rw [Nat.and_assoc, Nat.and_self]) (fun b hb => ?_) fun Q hQ h1 h2 => hQ _ _ _ (h1 _ e) h2
      rw [e] at hb
      cases hb
      rw [Nat.and_comm old, Nat.and_assoc, Nat.and_self]
theorem took_go {kn0 : Kn} (hk0 : ∀ x b, getN kn0 x = some b → Uni x b) : ∀ (fs2 fs1 : List Tri) (s : Kn × List (Nat × Nat)), (∀ f ∈ fs1 ++ fs2, Uni (key f) f.2.2) → Took kn0 s.1 s.2 fs1 → Took kn0 (fs2.foldl takeStep s).1 (fs2.foldl takeStep s).2 (fs1 ++ fs2)
  | [], fs1, s, _, T => by rw [List.append_nil]; exact T
  | f :: fs2, fs1, s, hu, T => by
    have U : ∀ x b, getN s.1 x = some b → Uni x b := T.pred Uni (fun x b c h1 h2 => ⟨h1.1, h1.2.1, Nat.lt_of_le_of_lt Nat.and_le_left h1.2.2⟩) hk0 fun g hg => hu g (List.mem_append_left _ hg)
    have T2 := took_step T (hu f (List.mem_append_right _ List.mem_cons_self)) U
    have z := took_go hk0 fs2 (fs1 ++ [f]) (takeStep s f) (fun g hg => hu g (by simpa using hg)) T2
    rw [List.append_assoc] at z
    exact z
theorem took {kn0 : Kn} (hk0 : ∀ x b, getN kn0 x = some b → Uni x b) (fs : List Tri) (hu : ∀ f ∈ fs, Uni (key f) f.2.2) : Took kn0 (takenIn kn0 fs).1 (takenIn kn0 fs).2 fs :=
  took_go hk0 fs [] (kn0, []) hu ⟨fun x b h => ⟨b, h, Nat.and_self b⟩, fun _ _ => rfl, (fun _ h => by cases h), (fun _ h => by cases h), fun Q _ h _ => h, by simp, Nat.le_refl _⟩
theorem takeStep_len (s : Kn × List (Nat × Nat)) (f : Tri) : (takeStep s f).1.length ≤ s.1.length + 1 ∧ (takeStep s f).2.length ≤ s.2.length + 1 := by
  unfold takeStep
  split
  · rw [List.length_append, put_len]
    split <;> exact ⟨by omega, Nat.le_refl _⟩
  · split
    · rw [List.length_append, put_len]
      split <;> exact ⟨by omega, Nat.le_refl _⟩
    · exact ⟨by omega, by omega⟩
/-! ### what follow gives lies within -/
def Rw.TOk (n : Nat) : Rw → Prop
  | .go t => t ≤ n
  | .cond _ _ _ t => t ≤ n
  | _ => True
theorem madePut_t (x : Nat) (y : Opd) (s : Sgn) (z : Opd) (n : Nat) : (madePut x y s z).TOk n := by
  have h4 : ∀ y s z, (madePut4 x y s z).TOk n := fun y s z => by
    unfold madePut4
    split <;> trivial
  have h3 : ∀ y s z, (madePut3 x y s z).TOk n := fun y s z => by
    unfold madePut3
    split
    · trivial
    · split <;> exact h4 _ _ _
  have h2 : ∀ y s z, (madePut2 x y s z).TOk n := fun y s z => by
    unfold madePut2
    split <;> exact h3 _ _ _
  unfold madePut
  split
  · trivial
  · split <;> exact h2 _ _ _
theorem madeIf_t (y : Opd) (s : Cmp) (z : Opd) (t n : Nat) (h : t ≤ n) : (madeIf y s z t).TOk n := by
  have h0 : ∀ y z, (lessThan y z t).TOk n := fun y z => by
    unfold lessThan
    split
    · exact h
    · split <;> exact h
  have h3 : ∀ y s z, (madeIf3 y s z t).TOk n := fun y s z => by
    unfold madeIf3
    split
    · exact h0 _ _
    · exact h
  have h2 : ∀ y s z, (madeIf2 y s z t).TOk n := fun y s z => by
    unfold madeIf2
    split
    · split
      · exact h
      · trivial
    · split <;> exact h3 _ _ _
  unfold madeIf
  split <;> exact h2 _ _ _
theorem madeRow_t {r : Rw} {m n : Nat} (k : Nat) (h : r.Ok m n) : (madeRow r k).TOk n := by
  cases r with
  | put x y s z => exact madePut_t x y s z n
  | cond y s z t =>
    show (if t = k + 1 then Rw.skip else madeIf y s z t).TOk n
    split
    · trivial
    · exact madeIf_t _ _ _ _ _ h.2.2
  | go t =>
    show (if t = k + 1 then Rw.skip else Rw.go t).TOk n
    split
    · trivial
    · exact h
  | tell y => trivial
  | skip => trivial
theorem rowAt_lt {p : Prog} {k : Nat} {r : Rw} (e : rowAt p k = some r) : ∃ o, p.rows[k]? = some o ∧ r = madeRow o k ∧ k < p.rows.length := by
  unfold rowAt at e
  cases q : p.rows[k]? with
  | none => rw [q] at e; cases e
  | some o =>
    rw [q] at e
    cases e
    exact ⟨o, rfl, rfl, (List.getElem?_eq_some_iff.mp q).1⟩
theorem goesOn_le {p : Prog} (hp : p.Ok) {k : Nat} {r : Rw} (e : rowAt p k = some r) : ∀ a ∈ goesOn r k, a ≤ p.rows.length := by
  obtain ⟨o, h1, h2, h3⟩ := rowAt_lt e
  have ht : r.TOk p.rows.length := h2 ▸ madeRow_t k (hp.2.2.2 o (List.mem_of_getElem? h1))
  intro a ha
  cases r with
  | go t =>
    simp [goesOn] at ha
    rw [ha]
    exact ht
  | cond y s z t =>
    simp [goesOn] at ha
    rcases ha with rfl | rfl
    · exact ht
    · exact h3
  | put x y s z => simp [goesOn] at ha; rw [ha]; exact h3
  | tell y => simp [goesOn] at ha; rw [ha]; exact h3
  | skip => simp [goesOn] at ha; rw [ha]; exact h3
theorem dropX_le (r : Rw) (b : Nat) : dropX r b ≤ b := by
  cases r <;> first | exact Nat.le_refl _ | exact Nat.sub_le _ _
theorem bitsBehind_lt {o u : Rw} {b : Nat} (ho : o.XOk) (hb : b < 64) : bitsBehind o u b < 64 := by
  have h : dropX u (dropX o b) < 64 := Nat.lt_of_le_of_lt (Nat.le_trans (dropX_le _ _) (dropX_le _ _)) hb
  cases o with
  | put x y s z =>
    show (if _ then b ||| 1 <<< x else _) < 64
    split
    · have hx : x ≤ 5 := ho
      refine Nat.or_lt_two_pow (n := 6) hb ?_
      rw [Nat.one_shiftLeft]
      exact Nat.pow_lt_pow_right (by decide) (by omega)
    · exact h
  | _ => exact h
theorem follow_cases (p q : Prog) (k j b : Nat) : ((isStop (rowAt p k) || isStop (rowAt q j)) = true ∧ follow p q k j b = if endAlike (rowAt p k) (rowAt q j) b = true then some [] else none) ∨
    ∃ o u, rowAt p k = some o ∧ rowAt q j = some u ∧ (isStop (some o) || isStop (some u)) = false ∧ follow p q k j b = if sameChoice o u b = true then some [(o.to, u.to, b), (k + 1, j + 1, b)] else some ((goesOn o k).flatMap fun a => (goesOn u j).map fun c => (a, c, bitsBehind o u b)) := by
  cases hs : isStop (rowAt p k) || isStop (rowAt q j) with
  | true =>
    refine .inl ⟨rfl, ?_⟩
    unfold follow
    exact if_pos hs
  | false =>
    cases ho : rowAt p k with
    | none =>
      rw [ho] at hs
      cases hs
    | some o =>
      cases hu : rowAt q j with
      | none =>
        rw [ho, hu, Bool.or_eq_false_iff] at hs
        cases hs.2
      | some u =>
        rw [ho, hu] at hs
        refine .inr ⟨o, u, rfl, rfl, hs, ?_⟩
        unfold follow
        rw [ho, hu]
        exact if_neg (by rw [hs]; decide)
theorem follow_le {p q : Prog} (hp : p.Ok) (hq : q.Ok) {k j b : Nat} {fs : List Tri} (hb : b < 64) (e : follow p q k j b = some fs) : fs.length ≤ 4 ∧ ∀ f ∈ fs, f.1 ≤ p.rows.length ∧ f.2.1 ≤ q.rows.length ∧ f.2.2 < 64 := by
  rcases follow_cases p q k j b with ⟨hs, h⟩ | ⟨o, u, ho, hu, hn, h⟩
  · rw [h] at e
    by_cases hc : endAlike (rowAt p k) (rowAt q j) b = true
    · rw [if_pos hc] at e
      cases e
      exact ⟨by decide, fun f h => by cases h⟩
    · rw [if_neg hc] at e
      cases e
  · rw [h] at e
    have h1 := goesOn_le hp ho
    have h2 := goesOn_le hq hu
    obtain ⟨_, _, _, k1⟩ := rowAt_lt ho
    obtain ⟨_, _, _, k2⟩ := rowAt_lt hu
    by_cases hs : sameChoice o u b = true
    · rw [if_pos hs] at e
      cases e
      refine ⟨by simp, fun f h => ?_⟩
      have c1 : o.isCond = true := by cases o <;> cases u <;> first | rfl | cases hs
      have c2 : u.isCond = true := by cases o <;> cases u <;> first | rfl | cases hs
      obtain ⟨y, s, z, t, rfl⟩ := cond_inv c1
      obtain ⟨y', s', z', t', rfl⟩ := cond_inv c2
      simp at h
      rcases h with rfl | rfl
      · exact ⟨h1 _ (by simp [goesOn, Rw.to]), h2 _ (by simp [goesOn, Rw.to]), hb⟩
      · exact ⟨k1, k2, hb⟩
    · rw [if_neg hs] at e
      cases e
      refine ⟨?_, fun f h => ?_⟩
      · have e1 := flat_len (fun a c => ((a, c, bitsBehind o u b) : Tri)) (goesOn u j) (goesOn o k)
        rw [e1]
        exact Nat.mul_le_mul (goesOn_len o k) (goesOn_len u j)
      · rw [List.mem_flatMap] at h
        obtain ⟨a, ha, h⟩ := h
        rw [List.mem_map] at h
        obtain ⟨c, hc, rfl⟩ := h
        exact ⟨h1 a ha, h2 c hc, bitsBehind_lt (rowAt_x hp ho) hb⟩
end Fkh
namespace Fkh
open PySem PySem.Spec PyProof.Rows L2 Evl
local macro_rules | `(tactic| walk_at "ev") => `(tactic| first
  | ((with_reducible apply ed_var); rfl)
  | with_reducible exact ed_int
  | with_reducible exact ed_str
  | with_reducible exact ed_non
  | with_reducible exact ed_bl
  | ((with_reducible apply ed_glob); assumption)
  | with_reducible exact ea_nil
  | with_reducible exact har_nil
  | with_reducible exact ep_none
  | ((with_reducible apply er_l); rfl)
  | ((with_reducible apply er_o); rfl)
  | with_reducible exact rv_eqI
  | with_reducible exact rv_eqS
  | with_reducible exact rv_neI
  | with_reducible exact rv_neS
  | with_reducible exact rv_eqB
  | with_reducible exact rv_isN
  | with_reducible exact rv_ltO
  | with_reducible exact rv_ltOpd
  | ((with_reducible show atI _ _ = some _); first | with_reducible exact atI_cons0 | rfl)
  | ((with_reducible show CMul _ _); first | exact .inl ⟨by omega, by omega⟩ | exact .inr ⟨by omega, by omega⟩)
  | ((with_reducible show (0 : Int) < _); first | decide | omega)
  | ((with_reducible show (0 : Int) ≤ _); omega)
  | ((with_reducible show CPow _ _); exact ⟨by omega, by omega, by decide⟩)
  | ((with_reducible show Nat.ble _ _ = true); rfl)
  | ((with_reducible show flat _ = true); rfl)
  | ((with_reducible show List.all _ _ = true); rfl)
  | ((with_reducible show CDiv _ _); exact ⟨by decide, by decide⟩)
  | ((with_reducible apply ed_ixT) <;> try walk_at "ev")
  | ((with_reducible apply ed_I0) <;> try walk_at "ev")
  | ((with_reducible apply ed_B0) <;> try walk_at "ev")
  | ((with_reducible apply ed_I) <;> try walk_at "ev")
  | ((with_reducible apply ed_ixV) <;> try walk_at "ev")
  | ((with_reducible apply ed_ixL) <;> try walk_at "ev")
  | ((with_reducible apply ed_eqD) <;> try walk_at "ev")
  | ((with_reducible apply ed_neD) <;> try walk_at "ev")
  | ((with_reducible apply ed_isT) <;> try walk_at "ev")
  | ((with_reducible apply ed_niT) <;> try walk_at "ev")
  | ((with_reducible apply ed_catT) <;> try walk_at "ev")
  | ((with_reducible apply ed_repA) <;> try walk_at "ev")
  | ((with_reducible apply ed_op) <;> try walk_at "ev")
  | ((with_reducible apply ed_un) <;> try walk_at "ev")
  | ((with_reducible apply ed_slT) <;> try walk_at "ev")
  | ((with_reducible apply ep_some) <;> try walk_at "ev")
  | ((with_reducible apply ed_lenT) <;> try walk_at "ev")
  | ((with_reducible apply ed_lenL) <;> try walk_at "ev")
  | ((with_reducible apply ed_tupOf) <;> try walk_at "ev")
  | ((with_reducible apply ed_divN) <;> try walk_at "ev")
  | ((with_reducible apply ed_andF); (walk_at "ev"); decide)
  | ((with_reducible apply ed_orT); (walk_at "ev"); decide)
  | ((with_reducible apply ed_andV) <;> (try (first | ((with_reducible show _ = true → _); intro _) | ((with_reducible show _ = false → _); intro _))) <;> try walk_at "ev")
  | ((with_reducible apply ed_orV) <;> (try (first | ((with_reducible show _ = true → _); intro _) | ((with_reducible show _ = false → _); intro _))) <;> try walk_at "ev")
  | ((with_reducible apply ed_notV) <;> try walk_at "ev")
  | ((with_reducible apply ed_tupB) <;> try walk_at "ev")
  | ((with_reducible apply ea_cons) <;> try walk_at "ev")
  | ((with_reducible apply har_d) <;> try walk_at "ev")
  | ((with_reducible apply eb_test) <;> try walk_at "ev")
  | ((with_reducible apply eb_B) <;> try walk_at "ev")
  | ((with_reducible apply eb_andF); (walk_at "ev"); decide)
  | ((with_reducible apply eb_orT); (walk_at "ev"); decide)
  | ((with_reducible apply eb_and) <;> (try (first | ((with_reducible show _ = true → _); intro _) | ((with_reducible show _ = false → _); intro _))) <;> try walk_at "ev")
  | ((with_reducible apply eb_or) <;> (try (first | ((with_reducible show _ = true → _); intro _) | ((with_reducible show _ = false → _); intro _))) <;> try walk_at "ev")
  | ((with_reducible apply eb_not) <;> try walk_at "ev")
  | ((with_reducible apply ed_call) <;> try walk_at "ev"))
local macro_rules | `(tactic| walk_at "go") => `(tactic| first
  | ((with_reducible apply run_seq); walk_at "go")
  | ((with_reducible apply run_next); (try (with_reducible show Run _ _ _ _)); (try walk_at "go"))
  | ((with_reducible apply run_if); (all_goals (try walk_at "ev")); (all_goals (try (((with_reducible show _ = true → _)); intro h; first | exact absurd h (by decide) | (try walk_at "go")))); (all_goals (try (((with_reducible show _ = false → _)); intro h; first | exact absurd h (by decide) | (try walk_at "go")))))
  | ((with_reducible apply run_asg); (all_goals (try walk_at "ev")); (all_goals (try (with_reducible show Run _ _ _ _))); (all_goals (try walk_at "go")))
  | ((with_reducible apply run_asgT2); (all_goals (try walk_at "ev")); (all_goals (try (with_reducible show Run _ _ _ _))); (all_goals (try walk_at "go")))
  | ((with_reducible apply run_ret); (all_goals (try walk_at "ev"))))
variable {P : Program} {w : World} {K : Fg} {mg : Str → Option Value} {base : Heap} {aN aO : Addr} {tR : Tok}
def encP2 (k : Nat × Nat) : PyData := .tuple [.int (k.1 : Int), .int (k.2 : Int)]
/-- a dict handed over, and changed -/
def spTaken (K : Fg) : Sp := fun vs H Q _ => ∃ (a : Addr) (v : V) (kn : Kn) (fs : List Tri), vs = [.ref a, v] ∧ H a = some (.dT (encD (toKvs kn))) ∧ Td K H v (.tuple (fs.map encT)) ∧ kn.length + fs.length ≤ 100000 ∧
  ∀ (p : Addr) (xs : List V) (H' : Hp), (∀ b o, b ≠ a → H b = some o → H' b = some o) → H' a = some (.dT (encD (toKvs (takenIn kn fs).1))) → H p = none → H' p = some (.lst xs) → Tds K H' xs ((takenIn kn fs).2.map encP2) → Q (.ref p) H'
theorem df_mkS {P : Program} {w : World} {K : Fg} {mg : Str → Option Value} {base : Heap} {x : Str} {st : Stmt} {N ps : List Str} {k : Nat} {sp : Sp} (D : ∃ f fd, mg x = some (.ref f) ∧ FunP K x st f fd) (S : FnScope N ps (defScope st))
    (hb : ∀ (kV doc pm : Value) (an : Option Addr) (cdv ct : Value) (us : List Value), us.length = ps.length → bindArgs (PySem.W.fnOf x x (defArgs st) (defBody st) (defScope st) .none kV doc pm an cdv ct) ⟨us, []⟩ = pure (ps.zip us)) (len : ∀ vs (Q : VK) (e : ∃ H E, sp vs H Q E), vs.length = ps.length)
    (hbody : ∀ (f : Addr) (cdv : Value) (A : Around) (outer : List PySem.Env) (s : Shared) (H : Hp) (E : XK), Room k (A.deeper (envOfC x (defScope st) s.heap.objs.size f cdv)) → ∀ vs Q, sp vs H Q E →
      ∃ t, PSs (cxOf CX0 P w K mg base N x (defScope st) f cdv A outer s H E).nox (defBody st) t ∧ t { nx := fun _ H' => Q .non H', rt := Q } (L2.start N vs) H) : Df P w K mg base x (k + 1) ps sp := by
  obtain ⟨f, fd, hm, D⟩ := D
  refine ⟨f, fd, hm, D.ok S (fun vs H Q E h => len vs Q ⟨H, E, h⟩) (fun cdv A outer s H vs Q E hr h => ?_), D.kp, D.bindsN hb⟩
  obtain ⟨t, h1, h2⟩ := hbody f cdv A outer s H E hr vs Q h
  exact ⟨t, h1.nox, h2⟩
theorem run_to {δ : Env} {P : Post} {A L R : TS} {H0 F H : Hp} {σ : L2.St} {D : Ends} (S : Sg K H0 F H σ δ) (h : Run K (tSeq A L) δ P) (G : Fits K H0 F { D with nx := R D } P) : tSeq A (tSeq L R) D σ H := h H0 F H σ _ S G
abbrev sTakenIn : Stmt := top 23
theorem scTakenIn : FnScope ["known", "following", "changed", "at", "to", "bits", "old"] ["known", "following"] (defScope sTakenIn) := ⟨rfl, rfl, rfl, by decide +kernel, rfl, by decide +kernel, by decide +kernel⟩
theorem dfTakenIn (G : Gs K mg aN aO tR) (D : ∃ f fd, mg "taken_in" = some (.ref f) ∧ FunP K "taken_in" sTakenIn f fd) : Df P w K mg base "taken_in" 1 ["known", "following"] (spTaken K) := by
  refine df_mkS D scTakenIn (fun _ _ _ _ _ _ us hl => match us, hl with | [_, _], _ => rfl) (fun es r h => ?_) fun f cdv A outer s H E hr es r hF => ⟨_, (pss_cons (ps_set (i := 2) scTakenIn.nd rfl (Or.inl rfl) (pe_lst pa_nil))
    (pss_cons (ps_for PassesOwn.never rfl (pi_tup (pv 1)) (pg_tup rfl (pgs_cons (pg_name (i := 3) scTakenIn.nd rfl (Or.inl rfl)) (pgs_cons (pg_name (i := 4) scTakenIn.nd rfl (Or.inl rfl)) (pgs_cons (pg_name (i := 5) scTakenIn.nd rfl (Or.inl rfl)) pgs_nil))))
      (pss_cons (ps_set (i := 6) scTakenIn.nd rfl (Or.inl rfl) (pe_dget1 (hu_of hr) (pv 0) (pe_tup (pa_cons (pv 3) (pa_cons (pv 4) pa_nil))) ⟨rfl, rfl, rfl, rfl⟩))
    (pss_one (ps_if (pt_cmpR op_isN1 (pv 6) pe_non (nomark _))
      (pss_cons (ps_dput (hu_of hr) (pv 0) (pe_tup (pa_cons (pv 3) (pa_cons (pv 4) pa_nil))) (pv 5) rfl)
    (pss_one (ps_expr (pe_bm PySem.F.plainAttrs_list PySem.F.slot_list_append PySem.F.type_list_append mt_append (pv 2) (pa_cons (pe_tup (pa_cons (pv 3) (pa_cons (pv 4) pa_nil))) pa_nil)))))
      (pss_one (ps_if (pt_cmpR op_ne (pe_op op_and (pv 6) (pv 5)) (pv 6) (nomark _))
      (pss_cons (ps_dput (hu_of hr) (pv 0) (pe_tup (pa_cons (pv 3) (pa_cons (pv 4) pa_nil))) (pe_op op_and (pv 6) (pv 5)) rfl)
    (pss_one (ps_expr (pe_bm PySem.F.plainAttrs_list PySem.F.slot_list_append PySem.F.type_list_append mt_append (pv 2) (pa_cons (pe_tup (pa_cons (pv 3) (pa_cons (pv 4) pa_nil))) pa_nil)))))
      pss_nil))))))
    (pss_one (ps_ret (pv 2))))), ?_⟩
  · obtain ⟨H, E, a, v, kn, fs, rfl, _⟩ := h
    rfl
  obtain ⟨a, v, kn, fs, rfl, ha, tv, hlen, q⟩ := hF
  dsimp only [cxOf, Cx.nox, Cx.wish]
  let H0 : Hp := fun b => if b = a then none else H b
  have h0a : H0 a = none := if_pos rfl
  have x0 : Ex H0 H := fun b o e => by
    have e' : (if b = a then none else H b) = some o := e
    by_cases hb : b = a
    · rw [if_pos hb] at e'; cases e'
    · rw [if_neg hb] at e'; exact e'
  have S : Sg K H0 H0 H (L2.start ["known", "following", "changed", "at", "to", "bits", "old"] [.ref a, v]) [some (.m (some a) (toKvs kn)), some (.d (.tuple (fs.map encT))), none, none, none, none, none] := by
    refine ⟨Ex.refl _, x0, rfl, fun i e h => ?_, fun i j e e' hij h1 h2 o1 o2 => ?_⟩
    · match i, h with
      | 0, h =>
        cases h
        exact ⟨_, rfl, a, rfl, h0a, ha, fun x z => (Option.some.inj z).symm⟩
      | 1, h =>
        cases h
        exact ⟨_, rfl, tv⟩
      | 2, h => cases h
      | 3, h => cases h
      | 4, h => cases h
      | 5, h => cases h
      | 6, h => cases h
      | n + 7, h => simp at h
    · match i, h1 with
      | 0, h1 =>
        match j, h2 with
        | 0, h2 => exact absurd rfl hij
        | 1, h2 => cases h2; cases o2
        | 2, h => cases h
        | 3, h => cases h
        | 4, h => cases h
        | 5, h => cases h
        | 6, h => cases h
        | n + 7, h => simp at h
      | 1, h1 => cases h1; cases o1
      | 2, h => cases h
      | 3, h => cases h
      | 4, h => cases h
      | 5, h => cases h
      | 6, h => cases h
      | n + 7, h => simp at h
  let st : Nat → Kn × List (Nat × Nat) := fun i => (fs.take i).foldl takeStep (kn, [])
  have hs1 : ∀ i, st (i + 1) = match fs[i]? with | none => st i | some f => takeStep (st i) f := fun i => by
    show (fs.take (i + 1)).foldl takeStep (kn, []) = _
    rw [List.take_add_one, List.foldl_append]
    cases fs[i]? <;> rfl
  have hst : ∀ i, (st i).1.length ≤ kn.length + i ∧ (st i).2.length ≤ i := fun i => by
    induction i with
    | zero => exact ⟨Nat.le_refl _, Nat.le_refl _⟩
    | succ i ih =>
      rw [hs1 i]
      cases hg : fs[i]? with
      | none => exact ⟨by show (st i).1.length ≤ _; omega, by show (st i).2.length ≤ _; omega⟩
      | some f =>
        have := takeStep_len (st i) f
        exact ⟨by show (takeStep (st i) f).1.length ≤ _; omega, by show (takeStep (st i) f).2.length ≤ _; omega⟩
  refine run_to (P := ⟨fun d => ∃ x1 x2 x3 x4, d = [some (.m (some a) (toKvs (takenIn kn fs).1)), some (.d (.tuple (fs.map encT))), some (.o ((takenIn kn fs).2.map encP2)), x1, x2, x3, x4], fun _ => False, fun _ => False, fun _ => False⟩) S ?_ ⟨fun d σ H' hd S' => ?_, fun _ _ _ z _ _ => z.elim, fun _ _ _ z _ => z.elim, fun _ _ _ z _ => z.elim⟩
  · refine run_seq (run_asgN (ds := []) (en_lstB (by walk_at "ev") rfl) ?_)
    refine run_forT (fun i d => ∃ x1 x2 x3 x4, d = [some (.m (some a) (toKvs (st i).1)), some (.d (.tuple (fs.map encT))), some (.o ((st i).2.map encP2)), x1, x2, x3, x4]) (tg_tup (is := [3, 4, 5]) rfl) (ed_var rfl) ⟨none, none, none, none, rfl⟩ (fun i x d hx hd => ?_) (fun d hd => ?_)
    · obtain ⟨x1, x2, x3, x4, rfl⟩ := hd
      rw [List.getElem?_map] at hx
      cases hg : fs[i]? with
      | none => rw [hg] at hx; cases hx
      | some f =>
        rw [hg] at hx
        cases hx
        have hi : i < fs.length := (List.getElem?_eq_some_iff.mp hg).1
        have hl := hst i
        obtain ⟨k, j, b⟩ := f
        have e1 : st (i + 1) = takeStep (st i) (k, j, b) := by
          rw [hs1 i, hg]
        refine ⟨⟨_, rfl, rfl⟩, ?_⟩
        rw [e1]
        generalize st i = s at hl ⊢
        obtain ⟨c, ch⟩ := s
        dsimp only at hl ⊢
        have ek : EvK K (tTup (tCons (tVar 3) (tCons (tVar 4) tNil))) [some (.m (some a) (toKvs c)), some (.d (.tuple (fs.map encT))), some (.o (ch.map encP2)), some (.d (.int (k : Int))), some (.d (.int (j : Int))), some (.d (.int (b : Int))), x4] ((k : Int), (j : Int)) := ek_tup (ed_var rfl) (ed_var rfl)
        show Run K _ [some (.m (some a) (toKvs c)), some (.d (.tuple (fs.map encT))), some (.o (ch.map encP2)), some (.d (.int (k : Int))), some (.d (.int (j : Int))), some (.d (.int (b : Int))), x4] _
        have hg1 : getK (toKvs c) ((k : Int), (j : Int)) = (getN c (k, j)).map fun n : Nat => (n : Int) := getK_ck (k, j) c
        refine run_seq (run_asg (x := optD (getK (toKvs c) ((k : Int), (j : Int)))) (ed_get (.inr rfl) ek) ?_)
        rw [hg1]
        have put : ∀ (v : Nat) (tv : TE) (x4 : Option Ent) (Pn : Post), EvD K tv [some (.m (some a) (toKvs c)), some (.d (.tuple (fs.map encT))), some (.o (ch.map encP2)), some (.d (.int (k : Int))), some (.d (.int (j : Int))), some (.d (.int (b : Int))), x4] (.int (v : Int)) →
            Pn.nx [some (.m (some a) (toKvs (putN c (k, j) v))), some (.d (.tuple (fs.map encT))), some (.o ((ch ++ [(k, j)]).map encP2)), some (.d (.int (k : Int))), some (.d (.int (j : Int))), some (.d (.int (b : Int))), x4] →
            Run K (tSeq (sDPut (tVar 0) (tTup (tCons (tVar 3) (tCons (tVar 4) tNil))) tv) (tDrop (tBM K "list" rAppend (tVar 2) (tCons (tTup (tCons (tVar 3) (tCons (tVar 4) tNil))) tNil)))) [some (.m (some a) (toKvs c)), some (.d (.tuple (fs.map encT))), some (.o (ch.map encP2)), some (.d (.int (k : Int))), some (.d (.int (j : Int))), some (.d (.int (b : Int))), x4] Pn := by
          intro v tv x4 Pn hv hP
          refine run_seq (run_put (i := 0) (kvs := toKvs c) (k := ((k : Int), (j : Int))) (n := (v : Int)) rfl hv (ek_tup (ed_var rfl) (ed_var rfl)) (by rw [toKvs_len]; omega) ?_)
          have e2 : putD (toKvs c) ((k : Int), (j : Int)) (v : Int) = toKvs (putN c (k, j) v) := put_ck c (k, j) v
          rw [e2]
          refine run_app (i := 2) (ds := ch.map encP2) (x := encP2 (k, j)) rfl (ed_tupB (ds := [.int (k : Int), .int (j : Int)]) (by walk_at "ev") rfl) (by rw [List.length_map]; omega) ?_
          rw [List.map_append] at hP
          exact hP
        unfold takeStep
        dsimp only
        cases ho : getN c (k, j) with
        | none =>
          refine run_if (b := true) (eb_is (eb_test (ed_op (ed_var rfl) ed_non (rv_isN (x := .none)))) rfl) (fun _ => ?_) (fun h => by cases h)
          exact put b _ _ _ (ed_var rfl) ⟨_, _, _, _, rfl⟩
        | some old =>
          refine run_if (b := false) (eb_is (eb_test (ed_op (ed_var rfl) ed_non (rv_isN (x := .int (old : Int))))) rfl) (fun h => by cases h) (fun _ => ?_)
          refine run_if (b := decide (old &&& b ≠ old)) (eb_is (by dsimp only [Option.map, optD]; walk_at "ev") (by rw [b_and, decide_not]; congr 2; apply propext; omega)) (fun h => ?_) (fun h => ?_)
          · dsimp only
            rw [if_pos (of_decide_eq_true h)]
            exact put (old &&& b) _ _ _ (ed_is (by dsimp only [Option.map, optD]; walk_at "ev") (by rw [b_and])) ⟨_, _, _, _, rfl⟩
          · dsimp only
            rw [if_neg (of_decide_eq_false h)]
            exact run_next ⟨_, _, _, _, rfl⟩
    · obtain ⟨x1, x2, x3, x4, rfl⟩ := hd
      rw [List.length_map] at *
      have e : st fs.length = takenIn kn fs := by
        show (fs.take fs.length).foldl takeStep (kn, []) = _
        rw [List.take_length]
        rfl
      rw [e]
      exact ⟨x1, x2, x3, x4, rfl⟩
  · obtain ⟨x1, x2, x3, x4, rfl⟩ := hd
    obtain ⟨v1, g1, b, rfl, hb0, hb, hba⟩ := S'.has 0 _ rfl
    have hab : a = b := hba a rfl
    subst hab
    obtain ⟨v2, g2, p, xs, rfl, hp0, hp, ht⟩ := S'.has 2 _ rfl
    refine ⟨_, g2, q p xs H' (fun c o hc ho => S'.ex _ _ ?_) hb ?_ hp ht⟩
    · show (if c = a then none else H c) = some o
      rw [if_neg hc]
      exact ho
    · have z : (if p = a then none else H p) = none := hp0
      by_cases e : p = a
      · subst e
        rw [hb] at hp
        cases hp
      · rw [if_neg e] at z
        exact z
end Fkh
namespace Fkh
open PySem PySem.Spec PyProof.Rows L2 Evl
local macro_rules | `(tactic| walk_at "ev") => `(tactic| first
  | ((with_reducible apply ed_var); rfl)
  | with_reducible exact ed_int
  | with_reducible exact ed_str
  | with_reducible exact ed_non
  | with_reducible exact ed_bl
  | ((with_reducible apply ed_glob); assumption)
  | with_reducible exact ea_nil
  | with_reducible exact har_nil
  | with_reducible exact ep_none
  | ((with_reducible apply er_l); rfl)
  | ((with_reducible apply er_o); rfl)
  | with_reducible exact rv_eqI
  | with_reducible exact rv_eqS
  | with_reducible exact rv_neI
  | with_reducible exact rv_neS
  | with_reducible exact rv_eqB
  | with_reducible exact rv_isN
  | with_reducible exact rv_ltO
  | with_reducible exact rv_ltOpd
  | ((with_reducible show atI _ _ = some _); first | with_reducible exact atI_cons0 | rfl)
  | ((with_reducible show CMul _ _); first | exact .inl ⟨by omega, by omega⟩ | exact .inr ⟨by omega, by omega⟩)
  | ((with_reducible show (0 : Int) < _); first | decide | omega)
  | ((with_reducible show (0 : Int) ≤ _); omega)
  | ((with_reducible show CPow _ _); exact ⟨by omega, by omega, by decide⟩)
  | ((with_reducible show Nat.ble _ _ = true); rfl)
  | ((with_reducible show flat _ = true); rfl)
  | ((with_reducible show List.all _ _ = true); rfl)
  | ((with_reducible show CDiv _ _); exact ⟨by decide, by decide⟩)
  | ((with_reducible apply ed_ixT) <;> try walk_at "ev")
  | ((with_reducible apply ed_I0) <;> try walk_at "ev")
  | ((with_reducible apply ed_B0) <;> try walk_at "ev")
  | ((with_reducible apply ed_I) <;> try walk_at "ev")
  | ((with_reducible apply ed_ixV) <;> try walk_at "ev")
  | ((with_reducible apply ed_ixL) <;> try walk_at "ev")
  | ((with_reducible apply ed_eqD) <;> try walk_at "ev")
  | ((with_reducible apply ed_neD) <;> try walk_at "ev")
  | ((with_reducible apply ed_isT) <;> try walk_at "ev")
  | ((with_reducible apply ed_niT) <;> try walk_at "ev")
  | ((with_reducible apply ed_catT) <;> try walk_at "ev")
  | ((with_reducible apply ed_repA) <;> try walk_at "ev")
  | ((with_reducible apply ed_op) <;> try walk_at "ev")
  | ((with_reducible apply ed_un) <;> try walk_at "ev")
  | ((with_reducible apply ed_slT) <;> try walk_at "ev")
  | ((with_reducible apply ep_some) <;> try walk_at "ev")
  | ((with_reducible apply ed_lenT) <;> try walk_at "ev")
  | ((with_reducible apply ed_lenL) <;> try walk_at "ev")
  | ((with_reducible apply ed_tupOf) <;> try walk_at "ev")
  | ((with_reducible apply ed_divN) <;> try walk_at "ev")
  | ((with_reducible apply ed_andF); (walk_at "ev"); decide)
  | ((with_reducible apply ed_orT); (walk_at "ev"); decide)
  | ((with_reducible apply ed_andV) <;> (try (first | ((with_reducible show _ = true → _); intro _) | ((with_reducible show _ = false → _); intro _))) <;> try walk_at "ev")
  | ((with_reducible apply ed_orV) <;> (try (first | ((with_reducible show _ = true → _); intro _) | ((with_reducible show _ = false → _); intro _))) <;> try walk_at "ev")
  | ((with_reducible apply ed_notV) <;> try walk_at "ev")
  | ((with_reducible apply ed_tupB) <;> try walk_at "ev")
  | ((with_reducible apply ea_cons) <;> try walk_at "ev")
  | ((with_reducible apply har_d) <;> try walk_at "ev")
  | ((with_reducible apply eb_test) <;> try walk_at "ev")
  | ((with_reducible apply eb_B) <;> try walk_at "ev")
  | ((with_reducible apply eb_andF); (walk_at "ev"); decide)
  | ((with_reducible apply eb_orT); (walk_at "ev"); decide)
  | ((with_reducible apply eb_and) <;> (try (first | ((with_reducible show _ = true → _); intro _) | ((with_reducible show _ = false → _); intro _))) <;> try walk_at "ev")
  | ((with_reducible apply eb_or) <;> (try (first | ((with_reducible show _ = true → _); intro _) | ((with_reducible show _ = false → _); intro _))) <;> try walk_at "ev")
  | ((with_reducible apply eb_not) <;> try walk_at "ev")
  | ((with_reducible apply ed_call) <;> try walk_at "ev"))
local macro_rules | `(tactic| walk_at "go") => `(tactic| first
  | ((with_reducible apply run_seq); walk_at "go")
  | ((with_reducible apply run_next); (try (with_reducible show Run _ _ _ _)); (try walk_at "go"))
  | ((with_reducible apply run_if); (all_goals (try walk_at "ev")); (all_goals (try (((with_reducible show _ = true → _)); intro h; first | exact absurd h (by decide) | (try walk_at "go")))); (all_goals (try (((with_reducible show _ = false → _)); intro h; first | exact absurd h (by decide) | (try walk_at "go")))))
  | ((with_reducible apply run_asg); (all_goals (try walk_at "ev")); (all_goals (try (with_reducible show Run _ _ _ _))); (all_goals (try walk_at "go")))
  | ((with_reducible apply run_asgT2); (all_goals (try walk_at "ev")); (all_goals (try (with_reducible show Run _ _ _ _))); (all_goals (try walk_at "go")))
  | ((with_reducible apply run_ret); (all_goals (try walk_at "ev"))))
variable {P : Program} {w : World} {K : Fg} {mg : Str → Option Value} {base : Heap} {aN aO : Addr} {tR : Tok}
section
variable {δ δ' : Env} {Po : Post} {t : TS} {ds : List PyData} {tt : TT}
/-- a new list, and the slots after -/
def EvM (K : Fg) (te : TE) (δ δ' : Env) (ds : List PyData) : Prop := ∀ H0 F H σ, Sg K H0 F H σ δ → ∀ Q : VK, (∀ p xs H2, Sg K H0 F H2 σ δ' → (∀ (i : Nat) (e : Ent), δ'[i]? = some (some e) → e.own = true → σ[i]? ≠ some (some (.ref p))) → H2 p = some (.lst xs) → Tds K H2 xs ds → Q (.ref p) H2) → te σ H Q
theorem run_forM {g : TG} {ok : PyData → Prop} {f : PyData → Env → Env} (I : Nat → Env → Prop) (tg : TgOk K g ok f) {ts : TE} (h : EvM K ts δ δ' ds) (h0 : I 0 δ')
    (hs : ∀ i x d, ds[i]? = some x → I i d → ok x ∧ Run K t (f x d) { Po with nx := I (i + 1), ct := I (i + 1), bk := Po.nx }) (hd : ∀ d, I ds.length d → Po.nx d) : Run K (tFor (iList K ts) g t) δ Po := fun H0 F H σ D S G =>
  h H0 F H σ S _ fun p xs H2 S' far h1 h2 => by
    obtain ⟨F', S2, x, tx, kp⟩ := S'.frame
    have G2 := G.back S'.base x
    have h1' : F' p = some (.lst xs) := kp p _ h1 far
    have h2' := Tds.tx tx h2
    refine ⟨p, rfl, ⟨xs, SqL.of h1⟩, ?_⟩
    refine for_list (xs := xs) (fun i σ' H' => ∃ d, I i d ∧ Sg K H0 F' H' σ' d) ⟨δ', h0, S2⟩ (fun i σ' H' hi ⟨d, hI, S'⟩ => SqL.of (S'.ex _ _ h1')) (fun i v σ' H' hv ⟨d, hI, S'⟩ => ?_) fun σ' H' ⟨d, hI, S'⟩ => G2.nx d σ' H' (hd d (by rw [← h2.len]; exact hI)) S'
    obtain ⟨y, hy, ty⟩ := h2'.got hv
    obtain ⟨ho, hr⟩ := hs i y d hy hI
    exact tg H0 F' H' σ' d v y ho (ty.ex S'.ex) S' _ fun σ2 S3 => hr H0 F' H' σ2 _ S3 ⟨fun d' σ2 H3 h1 h2 => ⟨d', h1, h2⟩, G2.rt, G2.nx, fun d' σ2 H3 h1 h2 => ⟨d', h1, h2⟩⟩
theorem em_taken {i j : Nat} {ad : Option Addr} {kn : Kn} {fs : List Tri} {E : XK} (h1 : δ[i]? = some (some (.m ad (toKvs kn)))) (h2 : δ[j]? = some (some (.d (.tuple (fs.map encT))))) (hl : kn.length + fs.length ≤ 100000) :
    EvM K (tCall (spTaken K) [] E (tCons (tVar i) (tCons (tVar j) tNil))) δ (δ.set i (some (.m ad (toKvs (takenIn kn fs).1)))) ((takenIn kn fs).2.map encP2) := fun H0 F H σ S Q q => by
  obtain ⟨v1, g1, a, rfl, hn, ha, had⟩ := S.has i _ h1
  obtain ⟨v2, g2, tv⟩ := S.has j _ h2
  refine ⟨_, g1, _, g2, a, v2, kn, fs, rfl, ha, tv, hl, fun p xs H' hx hb hp hpx ht => ?_⟩
  have e : Ex (upd H a (.dT (encD (toKvs (takenIn kn fs).1)))) H' := fun b o ho => by
    by_cases hba : b = a
    · subst hba
      rw [upd_same] at ho
      cases ho
      exact hb
    · rw [upd_ne hba] at ho
      exact hx b o hba ho
  have S2 := (S.put (e := .m ad (toKvs (takenIn kn fs).1)) h1 rfl g1 rfl ⟨a, rfl, hn, upd_same, had⟩).mono e
  refine q p xs H' S2 (fun l en hl ho hz => ?_) hpx ht
  rcases get_set hl with ⟨rfl, e1, _⟩ | ⟨_, hl⟩
  · rw [g1] at hz
    cases hz
    rw [ha] at hp
    cases hp
  · obtain ⟨v, k1, k2⟩ := S.has l _ hl
    obtain ⟨b, u, rfl, _, k3, _⟩ := own_at k2 ho
    rw [hz] at k1
    cases k1
    rw [hp] at k3
    cases k3
theorem run_whileM (I : Nat → Env → Prop) (h0 : ∃ m, I m δ) (hs : ∀ m d, I m d → ∃ b, EvB K tt d b ∧ (b = true → Run K t d { Po with nx := fun d' => ∃ m', m' < m ∧ I m' d', ct := fun d' => ∃ m', m' < m ∧ I m' d', bk := Po.nx }) ∧ (b = false → Po.nx d)) :
    Run K (tWhile tt t) δ Po := fun H0 F H σ D S G => by
  obtain ⟨m0, h0⟩ := h0
  refine ⟨fun m σ' H' => ∃ d, I m d ∧ Sg K H0 F H' σ' d, ⟨m0, δ, h0, S⟩, fun m σ' H' ⟨d, hI, S'⟩ => ?_⟩
  obtain ⟨b, hb, h1, h2⟩ := hs m d hI
  refine hb H0 F H' σ' S' _ fun H2 e2 => ?_
  cases b with
  | true =>
    refine ⟨fun σ2 H3 => ∃ d', (∃ m', m' < m ∧ I m' d') ∧ Sg K H0 F H3 σ2 d', fun σ2 H3 ⟨d', ⟨m', i1, i2⟩, S3⟩ => ⟨m', i1, d', i2, S3⟩, ?_⟩
    exact h1 rfl H0 F H2 σ' _ (S'.mono e2) ⟨fun d' σ2 H3 g1 g2 => ⟨d', g1, g2⟩, G.rt, G.nx, fun d' σ2 H3 g1 g2 => ⟨d', g1, g2⟩⟩
  | false => exact G.nx d σ' H2 (h2 rfl) (S'.mono e2)
end
/-! ### papers, plain -/
def Closed (p q : Prog) (S : Nat × Nat → Prop) : Prop := S (0, 0) ∧ ∀ k j, S (k, j) → ∃ fs, follow p q k j (2 ^ p.many - 1) = some fs ∧ ∀ f ∈ fs, S (key f) ∧ f.2.2 = 2 ^ p.many - 1
def Kept (p q : Prog) (g : Nat × Nat → Option Nat) : Prop := (∃ b, g (0, 0) = some b) ∧ ∀ x b, g x = some b → x.1 ≤ p.rows.length ∧ x.2 ≤ q.rows.length ∧ b < 64 ∧ ∃ fs, follow p q x.1 x.2 b = some fs ∧ ∀ f ∈ fs, ∃ b', g (key f) = some b' ∧ b' &&& f.2.2 = b'
structure Fine (p q : Prog) (kn : Kn) (w : List (Nat × Nat)) (m : Nat) : Prop where
  start : ∃ b, getN kn (0, 0) = some b
  inb : ∀ x b, getN kn x = some b → x.1 ≤ p.rows.length ∧ x.2 ≤ q.rows.length ∧ b < 64
  wk : ∀ x ∈ w, ∃ b, getN kn x = some b
  steady : ∀ x b, getN kn x = some b → x ∉ w → ∃ fs, follow p q x.1 x.2 b = some fs ∧ ∀ f ∈ fs, ∃ b', getN kn (key f) = some b' ∧ b' &&& f.2.2 = b'
  full : ∀ S, Closed p q S → ∀ x b, getN kn x = some b → S x ∧ b = 2 ^ p.many - 1
  tot : m = Ms kn + w.length
  top : kn.length + Ms kn ≤ 20000 ∧ m ≤ 20000
def addW (w : List (Nat × Nat)) (x : Nat × Nat) : List (Nat × Nat) := if x ∈ w then w else w ++ [x]
def addAll (w ch : List (Nat × Nat)) : List (Nat × Nat) := ch.foldl addW w
theorem addAll_mem {x : Nat × Nat} : ∀ (ch w : List (Nat × Nat)), x ∈ addAll w ch ↔ x ∈ w ∨ x ∈ ch
  | [], w => by simp [addAll]
  | c :: ch, w => by
    show x ∈ addAll (addW w c) ch ↔ _
    rw [addAll_mem ch]
    unfold addW
    split
    · rename_i h
      constructor
      · rintro (h1 | h1)
        · exact .inl h1
        · exact .inr (List.mem_cons_of_mem _ h1)
      · rintro (h1 | h1)
        · exact .inl h1
        · rcases List.mem_cons.mp h1 with rfl | h1
          · exact .inl h
          · exact .inr h1
    · rw [List.mem_append, List.mem_singleton, List.mem_cons]
      constructor
      · rintro ((h1 | h1) | h1)
        · exact .inl h1
        · exact .inr (.inl h1)
        · exact .inr (.inr h1)
      · rintro (h1 | h1 | h1)
        · exact .inl (.inl h1)
        · exact .inl (.inr h1)
        · exact .inr h1
theorem addAll_len : ∀ (ch w : List (Nat × Nat)), (addAll w ch).length ≤ w.length + ch.length
  | [], w => Nat.le_refl _
  | c :: ch, w => by
    have h := addAll_len ch (addW w c)
    have h2 : (addW w c).length ≤ w.length + 1 := by
      unfold addW
      split
      · omega
      · rw [List.length_append] <;> exact Nat.le_refl _
    show (addAll (addW w c) ch).length ≤ _
    rw [List.length_cons]
    omega
theorem uni_of {p q : Prog} (hp : p.Ok) (hq : q.Ok) {x : Nat × Nat} {b : Nat} (h : x.1 ≤ p.rows.length ∧ x.2 ≤ q.rows.length ∧ b < 64) : Uni x b := ⟨Nat.le_trans h.1 hp.2.1, Nat.le_trans h.2.1 hq.2.1, h.2.2⟩
theorem fine_start {p q : Prog} (hp : p.Ok) (hq : q.Ok) : Fine p q [((0, 0), 2 ^ p.many - 1)] [(0, 0)] (Ms [((0, 0), 2 ^ p.many - 1)] + 1) := by
  have g : ∀ x b, getN [((0, 0), 2 ^ p.many - 1)] x = some b → x = (0, 0) ∧ b = 2 ^ p.many - 1 := fun x b h => by
    unfold getN at h
    split at h
    · rename_i e
      cases h
      exact ⟨e.symm, rfl⟩
    · cases h
  have lt : 2 ^ p.many - 1 < 64 := by
    have h1 : 2 ^ p.many ≤ 2 ^ 5 := Nat.pow_le_pow_right (by decide) hp.1
    omega
  have inb : ∀ x b, getN [((0, 0), 2 ^ p.many - 1)] x = some b → x.1 ≤ p.rows.length ∧ x.2 ≤ q.rows.length ∧ b < 64 := fun x b h => by
    obtain ⟨rfl, rfl⟩ := g x b h
    exact ⟨Nat.zero_le _, Nat.zero_le _, lt⟩
  have top := ms_top _ fun x b h => uni_of hp hq (inb x b h)
  refine ⟨⟨_, rfl⟩, inb, fun x h => ?_, fun x b h hw => ?_, fun S hS x b h => ?_, rfl, ?_, ?_⟩
  · rw [List.mem_singleton] at h
    subst h
    exact ⟨_, rfl⟩
  · obtain ⟨rfl, rfl⟩ := g x b h
    exact absurd List.mem_cons_self hw
  · obtain ⟨rfl, rfl⟩ := g x b h
    exact ⟨hS.1, rfl⟩
  · show 1 + _ ≤ 20000
    omega
  · omega
theorem fine_step {p q : Prog} (hp : p.Ok) (hq : q.Ok) {kn : Kn} {w : List (Nat × Nat)} {x : Nat × Nat} {m b : Nat} {fs : List Tri} (I : Fine p q kn (w ++ [x]) m) (hb : getN kn x = some b) (hf : follow p q x.1 x.2 b = some fs) :
    ∃ m', m' < m ∧ Fine p q (takenIn kn fs).1 (addAll w (takenIn kn fs).2) m' := by
  have hin := I.inb x b hb
  obtain ⟨hl, hfu⟩ := follow_le hp hq hin.2.2 hf
  have T := took (fun y c h => uni_of hp hq (I.inb y c h)) fs fun f hf' => uni_of hp hq (x := key f) (hfu f hf')
  have tl := T.len
  have tm := T.ms
  have im := I.tot
  have it := I.top
  rw [List.length_append, List.length_singleton] at im
  have al := addAll_len (takenIn kn fs).2 w
  generalize takenIn kn fs = z at T tl tm al ⊢
  obtain ⟨kn', ch⟩ := z
  dsimp only at T tl tm al ⊢
  have inb : ∀ y c, getN kn' y = some c → y.1 ≤ p.rows.length ∧ y.2 ≤ q.rows.length ∧ c < 64 := T.pred (fun y c => y.1 ≤ p.rows.length ∧ y.2 ≤ q.rows.length ∧ c < 64) (fun y c d h1 h2 => ⟨h1.1, h1.2.1, Nat.lt_of_le_of_lt Nat.and_le_left h1.2.2⟩) I.inb hfu
  refine ⟨Ms kn' + (addAll w ch).length, by omega, ?_, inb, fun y hy => ?_, fun y c hy hn => ?_, fun S hS => ?_, rfl, by omega, by omega⟩
  · obtain ⟨c, hc⟩ := I.start
    obtain ⟨d, hd, _⟩ := T.low _ _ hc
    exact ⟨d, hd⟩
  · rw [addAll_mem] at hy
    rcases hy with hy | hy
    · obtain ⟨c, hc⟩ := I.wk y (List.mem_append_left _ hy)
      obtain ⟨d, hd, _⟩ := T.low _ _ hc
      exact ⟨d, hd⟩
    · exact T.known y hy
  · rw [addAll_mem] at hn
    have e := T.same y fun z => hn (.inr z)
    rw [e] at hy
    by_cases hyx : y = x
    · subst hyx
      rw [hb] at hy
      cases hy
      exact ⟨fs, hf, T.gone⟩
    · obtain ⟨gs, h1, h2⟩ := I.steady y c hy fun z => by
        rcases List.mem_append.mp z with z | z
        · exact hn (.inl z)
        · exact hyx (List.mem_singleton.mp z)
      refine ⟨gs, h1, fun f hf => ?_⟩
      obtain ⟨d, h3, h4⟩ := h2 f hf
      obtain ⟨d', h5, h6⟩ := T.low _ _ h3
      exact ⟨d', h5, and_self_of h4 h6⟩
  · refine T.pred (fun y c => S y ∧ c = 2 ^ p.many - 1) (fun y c d h1 h2 => ⟨h1.1, by rw [h1.2, h2.2, Nat.and_self]⟩) (I.full S hS) ?_
    obtain ⟨h1, h2⟩ := I.full S hS x b hb
    obtain ⟨gs, h3, h4⟩ := hS.2 x.1 x.2 h1
    rw [h2] at hf
    rw [hf] at h3
    cases h3
    exact h4
theorem fine_none {p q : Prog} {kn : Kn} {w : List (Nat × Nat)} {x : Nat × Nat} {m b : Nat} (I : Fine p q kn w m) (hb : getN kn x = some b) (hf : follow p q x.1 x.2 b = none) : ¬ ∃ S, Closed p q S := fun ⟨S, hS⟩ => by
  obtain ⟨h1, h2⟩ := I.full S hS x b hb
  obtain ⟨gs, h3, h4⟩ := hS.2 x.1 x.2 h1
  rw [h2] at hf
  rw [hf] at h3
  cases h3
def paper (kn : Kn) : List Tri := (sortK ((toKvs kn).map (·.1))).map fun c => (c.1.toNat, c.2.toNat, (getN kn (c.1.toNat, c.2.toNat)).getD 0)
theorem key_of_mem {kn : Kn} {c : Int × Int} (h : c ∈ sortK ((toKvs kn).map (·.1))) : ∃ x b, c = ck x ∧ getN kn x = some b := by
  have h1 := (sortK_perm _).mem_iff.mp h
  rw [List.mem_map] at h1
  obtain ⟨y, hy, rfl⟩ := h1
  unfold toKvs at hy
  rw [List.mem_map] at hy
  obtain ⟨z, hz, rfl⟩ := hy
  have h2 : (kn.any fun p => decide (p.1 = z.1)) = true := List.any_eq_true.mpr ⟨z, hz, by simp⟩
  rw [getN_any, Option.isSome_iff_exists] at h2
  obtain ⟨b, hb⟩ := h2
  exact ⟨z.1, b, rfl, hb⟩
def adorn (kn : Kn) : PyData → PyData
  | .tuple [.int a, .int b] => .tuple [.int a, .int b, .int ((getK (toKvs kn) (a, b)).getD 0)]
  | d => d
theorem paper_enc (kn : Kn) : (paper kn).map encT = ((sortK ((toKvs kn).map (·.1))).map encP).map (adorn kn) := by
  unfold paper
  rw [List.map_map, List.map_map]
  refine List.map_congr_left fun c hc => ?_
  obtain ⟨x, b, rfl, hb⟩ := key_of_mem hc
  have e1 : (ck x).1.toNat = x.1 := Int.toNat_natCast _
  have e2 : (ck x).2.toNat = x.2 := Int.toNat_natCast _
  show encT ((ck x).1.toNat, (ck x).2.toNat, (getN kn ((ck x).1.toNat, (ck x).2.toNat)).getD 0) = PyData.tuple [.int (ck x).1, .int (ck x).2, .int ((getK (toKvs kn) (ck x)).getD 0)]
  rw [e1, e2, getK_ck, show ((x.1, x.2) : Nat × Nat) = x from rfl, hb]
  rfl
theorem paper_get {kn : Kn} : ∀ t ∈ paper kn, getN kn (key t) = some t.2.2 := fun t ht => by
  unfold paper at ht
  rw [List.mem_map] at ht
  obtain ⟨c, hc, rfl⟩ := ht
  obtain ⟨x, b, rfl, hb⟩ := key_of_mem hc
  show getN kn ((ck x).1.toNat, (ck x).2.toNat) = some ((getN kn ((ck x).1.toNat, (ck x).2.toNat)).getD 0)
  have e1 : (ck x).1.toNat = x.1 := Int.toNat_natCast _
  have e2 : (ck x).2.toNat = x.2 := Int.toNat_natCast _
  rw [e1, e2, show ((x.1, x.2) : Nat × Nat) = x from rfl, hb]
  rfl
theorem paper_all {kn : Kn} {x : Nat × Nat} {b : Nat} (h : getN kn x = some b) : (x.1, x.2, b) ∈ paper kn := by
  unfold paper
  rw [List.mem_map]
  refine ⟨ck x, (sortK_perm _).mem_iff.mpr ?_, ?_⟩
  · rw [List.mem_map]
    refine ⟨(ck x, (b : Int)), ?_, rfl⟩
    unfold toKvs
    rw [List.mem_map]
    exact ⟨_, getN_mem h, rfl⟩
  · have e1 : (ck x).1.toNat = x.1 := Int.toNat_natCast _
    have e2 : (ck x).2.toNat = x.2 := Int.toNat_natCast _
    rw [e1, e2, show ((x.1, x.2) : Nat × Nat) = x from rfl, h]
    rfl
theorem paper_len (kn : Kn) : (paper kn).length = kn.length := by
  unfold paper
  rw [List.length_map, (sortK_perm _).length_eq, List.length_map, toKvs_len]
end Fkh
namespace Fkh
open PySem PySem.Spec PyProof.Rows L2 Evl
local macro_rules | `(tactic| walk_at "ev") => `(tactic| first
  | ((with_reducible apply ed_var); rfl)
  | with_reducible exact ed_int
  | with_reducible exact ed_str
  | with_reducible exact ed_non
  | with_reducible exact ed_bl
  | ((with_reducible apply ed_glob); assumption)
  | with_reducible exact ea_nil
  | with_reducible exact har_nil
  | with_reducible exact ep_none
  | ((with_reducible apply er_l); rfl)
  | ((with_reducible apply er_o); rfl)
  | with_reducible exact rv_eqI
  | with_reducible exact rv_eqS
  | with_reducible exact rv_neI
  | with_reducible exact rv_neS
  | with_reducible exact rv_eqB
  | with_reducible exact rv_isN
  | with_reducible exact rv_ltO
  | with_reducible exact rv_ltOpd
  | ((with_reducible show atI _ _ = some _); first | with_reducible exact atI_cons0 | rfl)
  | ((with_reducible show CMul _ _); first | exact .inl ⟨by omega, by omega⟩ | exact .inr ⟨by omega, by omega⟩)
  | ((with_reducible show (0 : Int) < _); first | decide | omega)
  | ((with_reducible show (0 : Int) ≤ _); omega)
  | ((with_reducible show CPow _ _); exact ⟨by omega, by omega, by decide⟩)
  | ((with_reducible show Nat.ble _ _ = true); rfl)
  | ((with_reducible show flat _ = true); rfl)
  | ((with_reducible show List.all _ _ = true); rfl)
  | ((with_reducible show CDiv _ _); exact ⟨by decide, by decide⟩)
  | ((with_reducible apply ed_ixT) <;> try walk_at "ev")
  | ((with_reducible apply ed_I0) <;> try walk_at "ev")
  | ((with_reducible apply ed_B0) <;> try walk_at "ev")
  | ((with_reducible apply ed_I) <;> try walk_at "ev")
  | ((with_reducible apply ed_ixV) <;> try walk_at "ev")
  | ((with_reducible apply ed_ixL) <;> try walk_at "ev")
  | ((with_reducible apply ed_eqD) <;> try walk_at "ev")
  | ((with_reducible apply ed_neD) <;> try walk_at "ev")
  | ((with_reducible apply ed_isT) <;> try walk_at "ev")
  | ((with_reducible apply ed_niT) <;> try walk_at "ev")
  | ((with_reducible apply ed_catT) <;> try walk_at "ev")
  | ((with_reducible apply ed_repA) <;> try walk_at "ev")
  | ((with_reducible apply ed_op) <;> try walk_at "ev")
  | ((with_reducible apply ed_un) <;> try walk_at "ev")
  | ((with_reducible apply ed_slT) <;> try walk_at "ev")
  | ((with_reducible apply ep_some) <;> try walk_at "ev")
  | ((with_reducible apply ed_lenT) <;> try walk_at "ev")
  | ((with_reducible apply ed_lenL) <;> try walk_at "ev")
  | ((with_reducible apply ed_tupOf) <;> try walk_at "ev")
  | ((with_reducible apply ed_divN) <;> try walk_at "ev")
  | ((with_reducible apply ed_andF); (walk_at "ev"); decide)
  | ((with_reducible apply ed_orT); (walk_at "ev"); decide)
  | ((with_reducible apply ed_andV) <;> (try (first | ((with_reducible show _ = true → _); intro _) | ((with_reducible show _ = false → _); intro _))) <;> try walk_at "ev")
  | ((with_reducible apply ed_orV) <;> (try (first | ((with_reducible show _ = true → _); intro _) | ((with_reducible show _ = false → _); intro _))) <;> try walk_at "ev")
  | ((with_reducible apply ed_notV) <;> try walk_at "ev")
  | ((with_reducible apply ed_tupB) <;> try walk_at "ev")
  | ((with_reducible apply ea_cons) <;> try walk_at "ev")
  | ((with_reducible apply har_d) <;> try walk_at "ev")
  | ((with_reducible apply eb_test) <;> try walk_at "ev")
  | ((with_reducible apply eb_B) <;> try walk_at "ev")
  | ((with_reducible apply eb_andF); (walk_at "ev"); decide)
  | ((with_reducible apply eb_orT); (walk_at "ev"); decide)
  | ((with_reducible apply eb_and) <;> (try (first | ((with_reducible show _ = true → _); intro _) | ((with_reducible show _ = false → _); intro _))) <;> try walk_at "ev")
  | ((with_reducible apply eb_or) <;> (try (first | ((with_reducible show _ = true → _); intro _) | ((with_reducible show _ = false → _); intro _))) <;> try walk_at "ev")
  | ((with_reducible apply eb_not) <;> try walk_at "ev")
  | ((with_reducible apply ed_call) <;> try walk_at "ev"))
local macro_rules | `(tactic| walk_at "go") => `(tactic| first
  | ((with_reducible apply run_seq); walk_at "go")
  | ((with_reducible apply run_next); (try (with_reducible show Run _ _ _ _)); (try walk_at "go"))
  | ((with_reducible apply run_if); (all_goals (try walk_at "ev")); (all_goals (try (((with_reducible show _ = true → _)); intro h; first | exact absurd h (by decide) | (try walk_at "go")))); (all_goals (try (((with_reducible show _ = false → _)); intro h; first | exact absurd h (by decide) | (try walk_at "go")))))
  | ((with_reducible apply run_asg); (all_goals (try walk_at "ev")); (all_goals (try (with_reducible show Run _ _ _ _))); (all_goals (try walk_at "go")))
  | ((with_reducible apply run_asgT2); (all_goals (try walk_at "ev")); (all_goals (try (with_reducible show Run _ _ _ _))); (all_goals (try walk_at "go")))
  | ((with_reducible apply run_ret); (all_goals (try walk_at "ev"))))
variable {P : Program} {w : World} {K : Fg} {mg : Str → Option Value} {base : Heap} {aN aO : Addr} {tR : Tok}
def FoundR (p q : Prog) (r : Ent) : Prop := (r = .d .none ∧ ¬ ∃ S, Closed p q S) ∨ ∃ (ts : List Tri) (g : Nat × Nat → Option Nat), r = .d (.tuple (ts.map encT)) ∧ ts.length ≤ 100000 ∧ Kept p q g ∧ (∀ t ∈ ts, g (key t) = some t.2.2) ∧ ∀ x b, g x = some b → (x.1, x.2, b) ∈ ts
def FFound (es : List Ent) (R : Ent → Prop) : Prop := ∃ p q, es = [.d p.enc, .d q.enc] ∧ p.Ok ∧ q.Ok ∧ R = FoundR p q
theorem any_encP (x : Nat × Nat) : ∀ w : List (Nat × Nat), ((w.map encP2).any fun z => PyData.eqv z (encP2 x)) = decide (x ∈ w)
  | [] => by simp
  | y :: w => by
    rw [List.map_cons, List.any_cons, any_encP x w]
    have e : PyData.eqv (encP2 y) (encP2 x) = decide (y = x) := by
      obtain ⟨y1, y2⟩ := y
      obtain ⟨x1, x2⟩ := x
      simp only [encP2, PyData.eqv, PyData.eqvAll, Bool.and_true]
      rw [Bool.beq_eq_decide_eq, Bool.beq_eq_decide_eq, ← Bool.decide_and]
      congr 1
      apply propext
      constructor
      · intro h
        exact Prod.ext (by show y1 = x1; omega) (by show y2 = x2; omega)
      · intro h
        cases h
        exact ⟨rfl, rfl⟩
    rw [e]
    by_cases h : y = x
    · subst h
      simp
    · have : ¬ x = y := fun z => h z.symm
      simp [h, this]
theorem encP_shaped (x : Nat × Nat) : SeqAt.shaped (encP2 x) = true := by simp [encP2, SeqAt.shaped, PyData.canLay0, PyData.canLayAll0, PyData.depth, PyData.depthAll]
theorem encP_lay : ∀ w : List (Nat × Nat), PyData.canLayAll0 (w.map encP2) = true ∧ PyData.depthAll (w.map encP2) ≤ 1
  | [] => by simp [PyData.canLayAll0, PyData.depthAll]
  | x :: w => by
    have := encP_lay w
    simp [encP2, PyData.canLayAll0, PyData.canLay0, PyData.depth, PyData.depthAll] at this ⊢
    exact ⟨this.1, by omega⟩
theorem encP_shapedL (w : List (Nat × Nat)) : SeqAt.shaped (.list (w.map encP2)) = true := by
  have := encP_lay w
  simp [SeqAt.shaped, PyData.canLay0, PyData.depth, this.1]
  omega
abbrev sFoundPaper : Stmt := top 24
theorem scFoundPaper : FnScope ["one", "other", "known", "waiting", "k", "j", "following", "pair"] ["one", "other"] (defScope sFoundPaper) := ⟨rfl, rfl, rfl, by decide +kernel, rfl, by decide +kernel, by decide +kernel⟩
theorem dfFoundPaper (G : Gs K mg aN aO tR) (dTakenIn : Df P w K mg base "taken_in" 1 ["known", "following"] (spTaken K)) (dFollow : Df P w K mg base "follow" 6 ["one", "other", "k", "j", "bits"] (spF K FFollow))
    (D : ∃ f fd, mg "found_paper" = some (.ref f) ∧ FunP K "found_paper" sFoundPaper f fd) : Df P w K mg base "found_paper" 7 ["one", "other"] (spG K FFound) := by
  refine df_mkG D scFoundPaper (fun _ _ _ _ _ _ us hl => match us, hl with | [_, _], _ => rfl) (fun es r h => ?_) fun f cdv A outer s H E hr es r hF => ⟨_, (pss_cons (ps_set (i := 2) scFoundPaper.nd rfl (Or.inr rfl) (pe_disp1 (hu_of hr) (pe_tup (pa_cons pe_int (pa_cons pe_int pa_nil))) (pe_op op_sub (pe_op op_shl pe_int (pe_ix ix_tup (pv 0) pe_int (fun _ _ => rfl))) pe_int)))
    (pss_cons (ps_set (i := 3) scFoundPaper.nd rfl (Or.inl rfl) (pe_lst (pa_cons (pe_tup (pa_cons pe_int (pa_cons pe_int pa_nil))) pa_nil)))
    (pss_cons (ps_while PassesOwn.never (pt_cmpR op_gt (pe_callB call_len1 (by rfl) G.len PySem.boot_len (pa_cons (pv 3) pa_nil)) pe_int (nomark _))
      (pss_cons (ps_asg (pe_bm0 PySem.F.plainAttrs_list PySem.F.slot_list_pop PySem.F.type_list_pop mt_pop (pv 3)) (pg_tup rfl (pgs_cons (pg_name (i := 4) scFoundPaper.nd rfl (Or.inl rfl)) (pgs_cons (pg_name (i := 5) scFoundPaper.nd rfl (Or.inl rfl)) pgs_nil))))
    (pss_cons (ps_set (i := 6) scFoundPaper.nd rfl (Or.inl rfl) (pe_df dFollow (hr.mono (by decide)) rfl (pa_cons (pv 0) (pa_cons (pv 1) (pa_cons (pv 4) (pa_cons (pv 5) (pa_cons (pe_dget (hu_of hr) (pv 2) (pe_tup (pa_cons (pv 4) (pa_cons (pv 5) pa_nil))) (fun _ _ => rfl)) pa_nil)))))))
    (pss_cons (ps_if (pt_cmpR op_isN1 (pv 6) pe_non (nomark _))
      (pss_one (ps_ret pe_non))
      pss_nil)
    (pss_one (ps_for PassesOwn.never rfl (pi_list (pe_df dTakenIn (hr.mono (by decide)) rfl (pa_cons (pv 2) (pa_cons (pv 6) pa_nil)))) (pg_name (i := 7) scFoundPaper.nd rfl (Or.inl rfl))
      (pss_one (ps_if (pt_cmpR (op_notInD (hu65 hr)) (pv 7) (pv 3) rfl)
      (pss_one (ps_expr (pe_bm PySem.F.plainAttrs_list PySem.F.slot_list_append PySem.F.type_list_append mt_append (pv 3) (pa_cons (pv 7) pa_nil))))
      pss_nil))))))))
    (pss_one (ps_ret (pe_callTy call_tup1 (by rfl) G.tuple (by decide +kernel) (pa_cons (pe_lc (own := [("k", 4), ("j", 5)]) (tt := tYes) rfl scFoundPaper.nd (pi_list (pe_callB (call_sortD rfl (hu10 hr)) (by rfl) G.sorted (by decide +kernel) (pa_cons (pv 2) pa_nil))) (blkOk_by (own := [("k", 4), ("j", 5)]) (N := ["one", "other", "known", "waiting", "k", "j", "following", "pair"]) (sc := defScope sFoundPaper) (by decide +kernel)) (fun _ _ _ _ _ => (show PG _ _ (gTup K 2 (gCons (gName 4) (gCons (gName 5) gNil))) from pg_tup rfl (pgs_cons (pg_name (i := 4) scFoundPaper.nd rfl (Or.inl rfl) (.inr rfl)) (pgs_cons (pg_name (i := 5) scFoundPaper.nd rfl (Or.inl rfl) (.inr rfl)) pgs_nil)))) (fun _ _ _ _ _ => pts_nil) (fun _ _ _ _ _ => (pe_tup (pa_cons (pv 4) (pa_cons (pv 5) (pa_cons (pe_dget (hu_of hr) (pv 2) (pe_tup (pa_cons (pv 4) (pa_cons (pv 5) pa_nil))) (fun _ _ => rfl)) pa_nil)))))) pa_nil))))))), ?_⟩
  · obtain ⟨p, q, rfl, _⟩ := h
    rfl
  obtain ⟨p, q, rfl, hp, hq, rfl⟩ := hF
  dsimp only [cxOf, Cx.nox, Cx.wish]
  have hm : p.many ≤ 5 := hp.1
  have hfull : (1 : Int) * 2 ^ ((p.many : Int).toNat) - 1 = ((2 ^ p.many - 1 : Nat) : Int) := by
    rw [b_shl, Nat.one_shiftLeft]
    have : 1 ≤ 2 ^ p.many := Nat.one_le_two_pow
    omega
  refine run_seq (run_asgM1 (k := (0, 0)) (n := ((2 ^ p.many - 1 : Nat) : Int)) (ek_tup (by walk_at "ev") (by walk_at "ev")) (ed_is (ed_I0 (ed_I (i := 1) (j := (p.many : Int)) (by walk_at "ev") (ed_ixT (ds := [.tuple p.takes, .int (p.many : Int), .tuple (p.rows.map Rw.enc)]) (ed_var rfl) rfl) ⟨by omega, by omega, by decide⟩) (by walk_at "ev")) (by rw [hfull])) ?_)
  refine run_seq (run_asgN (ds := [encP2 (0, 0)]) (en_lstB (ea_cons (ed_tupB (ds := [.int 0, .int 0]) (by walk_at "ev") rfl) ea_nil) rfl) ?_)
  let I : Nat → Env → Prop := fun m d => ∃ kn w x4 x5 x6 x7, d = [some (.d p.enc), some (.d q.enc), some (.m none (toKvs kn)), some (.o (w.map encP2)), x4, x5, x6, x7] ∧ Fine p q kn w m
  let J : Env → Prop := fun d => ∃ kn m x4 x5 x6 x7, d = [some (.d p.enc), some (.d q.enc), some (.m none (toKvs kn)), some (.o []), x4, x5, x6, x7] ∧ Fine p q kn [] m
  refine run_mid J ?_ ?_
  · refine run_whileM I ⟨_, [((0, 0), 2 ^ p.many - 1)], [(0, 0)], none, none, none, none, rfl, fine_start hp hq⟩ fun m d hd => ?_
    obtain ⟨kn, w, x4, x5, x6, x7, rfl, hI⟩ := hd
    refine ⟨decide (w ≠ []), eb_is (eb_test (ed_B0 (ed_lenL (er_o rfl)) ed_int)) (by rw [List.length_map]; cases w <;> simp), fun h => ?_, fun h => ?_⟩
    · have hw := of_decide_eq_true h
      obtain ⟨w0, x, rfl⟩ : ∃ w0 x, w = w0 ++ [x] := ⟨w.dropLast, w.getLast hw, (List.dropLast_concat_getLast hw).symm⟩
      obtain ⟨b, hb⟩ := hI.wk x (List.mem_append_right _ List.mem_cons_self)
      have hin := hI.inb x b hb
      refine run_seq (run_popT (i := 3) (n := 2) (is := [4, 5]) (es := w0.map encP2) (ds := [.int (x.1 : Int), .int (x.2 : Int)]) (by rw [List.map_append]; rfl) rfl rfl ?_)
      show Run K _ [some (.d p.enc), some (.d q.enc), some (.m none (toKvs kn)), some (.o (w0.map encP2)), some (.d (.int (x.1 : Int))), some (.d (.int (x.2 : Int))), x6, x7] _
      have hg : getK (toKvs kn) ((x.1 : Int), (x.2 : Int)) = some (b : Int) := by
        have z := getK_ck x kn
        rw [hb] at z
        exact z
      refine run_seq (run_asg (x := encF (follow p q x.1 x.2 b)) (ed_call (es := [.d p.enc, .d q.enc, .d (.int (x.1 : Int)), .d (.int (x.2 : Int)), .d (.int (b : Int))]) (har_d (ed_var rfl) (har_d (ed_var rfl) (har_d (ed_var rfl) (har_d (ed_var rfl) (har_d (ed_at (.inr rfl) (ek_tup (ed_var rfl) (ed_var rfl)) hg) har_nil))))) ⟨p, q, x.1, x.2, b, rfl, hp, hq, hin.1, hin.2.1, rfl⟩) ?_)
      cases hf : follow p q x.1 x.2 b with
      | none =>
        refine run_seq (run_if (b := true) (eb_is (eb_test (ed_op (ed_var rfl) ed_non (rv_isN (x := .none)))) rfl) (fun _ => ?_) (fun h => by cases h))
        exact run_ret ed_non (.inl ⟨rfl, fine_none hI hb hf⟩)
      | some fs =>
        refine run_seq (run_if (b := false) (eb_is (eb_test (ed_op (ed_var rfl) ed_non (rv_isN (x := .tuple (fs.map encT))))) rfl) (fun h => by cases h) (fun _ => ?_))
        apply run_next
        obtain ⟨m', hm', hI'⟩ := fine_step hp hq hI hb hf
        have hfl := (follow_le hp hq hin.2.2 hf).1
        have top := hI.top
        have tot := hI.tot
        rw [List.length_append, List.length_singleton] at tot
        have tch := (took (fun y c h => uni_of hp hq (hI.inb y c h)) fs fun f hf' => uni_of hp hq (x := key f) ((follow_le hp hq hin.2.2 hf).2 f hf')).ms
        refine run_forM (fun i d => ∃ x7, d = [some (.d p.enc), some (.d q.enc), some (.m none (toKvs (takenIn kn fs).1)), some (.o ((addAll w0 ((takenIn kn fs).2.take i)).map encP2)), some (.d (.int (x.1 : Int))), some (.d (.int (x.2 : Int))), some (.d (.tuple (fs.map encT))), x7]) tg_name (em_taken (i := 2) (j := 6) (kn := kn) (fs := fs) rfl rfl (by omega)) ⟨x7, rfl⟩ (fun i z d hz hd => ⟨trivial, ?_⟩) (fun d hd => ?_)
        · obtain ⟨y7, rfl⟩ := hd
          rw [List.getElem?_map] at hz
          cases hc : (takenIn kn fs).2[i]? with
          | none => rw [hc] at hz; cases hz
          | some c =>
            rw [hc] at hz
            cases hz
            have e1 : addAll w0 ((takenIn kn fs).2.take (i + 1)) = addW (addAll w0 ((takenIn kn fs).2.take i)) c := by
              unfold addAll
              rw [List.take_add_one, List.foldl_append, hc]
              rfl
            have lw := addAll_len ((takenIn kn fs).2.take i) w0
            have lt : ((takenIn kn fs).2.take i).length ≤ (takenIn kn fs).2.length := by
              rw [List.length_take]
              omega
            rw [e1]
            unfold addW
            generalize addAll w0 ((takenIn kn fs).2.take i) = w1 at lw ⊢
            show Run K _ [some (.d p.enc), some (.d q.enc), some (.m none (toKvs (takenIn kn fs).1)), some (.o (w1.map encP2)), some (.d (.int (x.1 : Int))), some (.d (.int (x.2 : Int))), some (.d (.tuple (fs.map encT))), some (.d (encP2 c))] _
            refine run_if (b := !decide (c ∈ w1)) (eb_is (eb_test (ed_notInD (x := encP2 c) (ds := w1.map encP2) (ed_var rfl) (er_o rfl) (encP_shaped _) (encP_shapedL _))) (by rw [any_encP])) (fun h => ?_) (fun h => ?_)
            · have hn : ¬ c ∈ w1 := by simpa using h
              rw [if_neg hn, List.map_append]
              exact run_app (i := 3) (ds := w1.map encP2) (x := encP2 c) rfl (ed_var rfl) (by rw [List.length_map]; omega) ⟨_, rfl⟩
            · have hn : c ∈ w1 := by simpa using h
              rw [if_pos hn]
              exact run_next ⟨_, rfl⟩
        · obtain ⟨y7, rfl⟩ := hd
          rw [List.length_map, List.take_length]
          exact ⟨m', hm', _, _, _, _, _, _, rfl, hI'⟩
    · have hw : w = [] := by simpa using h
      subst hw
      exact ⟨kn, m, x4, x5, x6, x7, rfl, hI⟩
  · intro d hd
    obtain ⟨kn, m, x4, x5, x6, x7, rfl, hI⟩ := hd
    have top := hI.top
    have hls : (sortK ((toKvs kn).map (·.1))).length = kn.length := by rw [(sortK_perm _).length_eq, List.length_map, toKvs_len]
    refine run_ret (ed_is (ed_tupOf (er_n (en_lcL (adorn kn) (tgw_tup (is := [4, 5]) (vs := [4, 5]) rfl (fun i h => h)) (er_n (en_sortD (i := 2) (kvs := toKvs kn) rfl)) (by rw [List.length_map, hls]; omega) fun x hx => ?_))) (by rw [← paper_enc])) (.inr ⟨paper kn, getN kn, rfl, by rw [paper_len]; omega, ⟨hI.start, fun x b h => ⟨(hI.inb x b h).1, (hI.inb x b h).2.1, (hI.inb x b h).2.2, hI.steady x b h (fun z => by cases z)⟩⟩, paper_get, fun x b h => paper_all h⟩)
    rw [List.mem_map] at hx
    obtain ⟨c, hc, rfl⟩ := hx
    obtain ⟨y, b, rfl, hb⟩ := key_of_mem hc
    have hg : getK (toKvs kn) (ck y) = some (b : Int) := by rw [getK_ck, hb]; rfl
    refine ⟨⟨_, rfl, rfl⟩, ed_tupB (ds := [.int (ck y).1, .int (ck y).2, .int ((getK (toKvs kn) (ck y)).getD 0)]) (ea_cons (ed_var rfl) (ea_cons (ed_var rfl) (ea_cons (ed_at (.inr rfl) (ek_tup (ed_var rfl) (ed_var rfl)) ?_) ea_nil))) rfl⟩
    show getK (toKvs kn) (ck y) = some ((getK (toKvs kn) (ck y)).getD 0)
    rw [hg]
    rfl
end Fkh
namespace Fkh
open PySem PySem.Spec PyProof.Rows L2 Evl
local macro_rules | `(tactic| walk_at "ev") => `(tactic| first
  | ((with_reducible apply ed_var); rfl)
  | with_reducible exact ed_int
  | with_reducible exact ed_str
  | with_reducible exact ed_non
  | with_reducible exact ed_bl
  | ((with_reducible apply ed_glob); assumption)
  | with_reducible exact ea_nil
  | with_reducible exact har_nil
  | with_reducible exact ep_none
  | ((with_reducible apply er_l); rfl)
  | ((with_reducible apply er_o); rfl)
  | with_reducible exact rv_eqI
  | with_reducible exact rv_eqS
  | with_reducible exact rv_neI
  | with_reducible exact rv_neS
  | with_reducible exact rv_eqB
  | with_reducible exact rv_isN
  | with_reducible exact rv_ltO
  | with_reducible exact rv_ltOpd
  | ((with_reducible show atI _ _ = some _); first | with_reducible exact atI_cons0 | rfl)
  | ((with_reducible show CMul _ _); first | exact .inl ⟨by omega, by omega⟩ | exact .inr ⟨by omega, by omega⟩)
  | ((with_reducible show (0 : Int) < _); first | decide | omega)
  | ((with_reducible show (0 : Int) ≤ _); omega)
  | ((with_reducible show CPow _ _); exact ⟨by omega, by omega, by decide⟩)
  | ((with_reducible show Nat.ble _ _ = true); rfl)
  | ((with_reducible show flat _ = true); rfl)
  | ((with_reducible show List.all _ _ = true); rfl)
  | ((with_reducible show CDiv _ _); exact ⟨by decide, by decide⟩)
  | ((with_reducible apply ed_ixT) <;> try walk_at "ev")
  | ((with_reducible apply ed_I0) <;> try walk_at "ev")
  | ((with_reducible apply ed_B0) <;> try walk_at "ev")
  | ((with_reducible apply ed_I) <;> try walk_at "ev")
  | ((with_reducible apply ed_ixV) <;> try walk_at "ev")
  | ((with_reducible apply ed_ixL) <;> try walk_at "ev")
  | ((with_reducible apply ed_eqD) <;> try walk_at "ev")
  | ((with_reducible apply ed_neD) <;> try walk_at "ev")
  | ((with_reducible apply ed_isT) <;> try walk_at "ev")
  | ((with_reducible apply ed_niT) <;> try walk_at "ev")
  | ((with_reducible apply ed_catT) <;> try walk_at "ev")
  | ((with_reducible apply ed_repA) <;> try walk_at "ev")
  | ((with_reducible apply ed_op) <;> try walk_at "ev")
  | ((with_reducible apply ed_un) <;> try walk_at "ev")
  | ((with_reducible apply ed_slT) <;> try walk_at "ev")
  | ((with_reducible apply ep_some) <;> try walk_at "ev")
  | ((with_reducible apply ed_lenT) <;> try walk_at "ev")
  | ((with_reducible apply ed_lenL) <;> try walk_at "ev")
  | ((with_reducible apply ed_tupOf) <;> try walk_at "ev")
  | ((with_reducible apply ed_divN) <;> try walk_at "ev")
  | ((with_reducible apply ed_andF); (walk_at "ev"); decide)
  | ((with_reducible apply ed_orT); (walk_at "ev"); decide)
  | ((with_reducible apply ed_andV) <;> (try (first | ((with_reducible show _ = true → _); intro _) | ((with_reducible show _ = false → _); intro _))) <;> try walk_at "ev")
  | ((with_reducible apply ed_orV) <;> (try (first | ((with_reducible show _ = true → _); intro _) | ((with_reducible show _ = false → _); intro _))) <;> try walk_at "ev")
  | ((with_reducible apply ed_notV) <;> try walk_at "ev")
  | ((with_reducible apply ed_tupB) <;> try walk_at "ev")
  | ((with_reducible apply ea_cons) <;> try walk_at "ev")
  | ((with_reducible apply har_d) <;> try walk_at "ev")
  | ((with_reducible apply eb_test) <;> try walk_at "ev")
  | ((with_reducible apply eb_B) <;> try walk_at "ev")
  | ((with_reducible apply eb_andF); (walk_at "ev"); decide)
  | ((with_reducible apply eb_orT); (walk_at "ev"); decide)
  | ((with_reducible apply eb_and) <;> (try (first | ((with_reducible show _ = true → _); intro _) | ((with_reducible show _ = false → _); intro _))) <;> try walk_at "ev")
  | ((with_reducible apply eb_or) <;> (try (first | ((with_reducible show _ = true → _); intro _) | ((with_reducible show _ = false → _); intro _))) <;> try walk_at "ev")
  | ((with_reducible apply eb_not) <;> try walk_at "ev")
  | ((with_reducible apply ed_call) <;> try walk_at "ev"))
local macro_rules | `(tactic| walk_at "go") => `(tactic| first
  | ((with_reducible apply run_seq); walk_at "go")
  | ((with_reducible apply run_next); (try (with_reducible show Run _ _ _ _)); (try walk_at "go"))
  | ((with_reducible apply run_if); (all_goals (try walk_at "ev")); (all_goals (try (((with_reducible show _ = true → _)); intro h; first | exact absurd h (by decide) | (try walk_at "go")))); (all_goals (try (((with_reducible show _ = false → _)); intro h; first | exact absurd h (by decide) | (try walk_at "go")))))
  | ((with_reducible apply run_asg); (all_goals (try walk_at "ev")); (all_goals (try (with_reducible show Run _ _ _ _))); (all_goals (try walk_at "go")))
  | ((with_reducible apply run_asgT2); (all_goals (try walk_at "ev")); (all_goals (try (with_reducible show Run _ _ _ _))); (all_goals (try walk_at "go")))
  | ((with_reducible apply run_ret); (all_goals (try walk_at "ev"))))
variable {P : Program} {w : World} {K : Fg} {mg : Str → Option Value} {base : Heap} {aN aO : Addr} {tR : Tok}
section
variable {δ : Env} {ta tb : TE} {ds es : List PyData}
/-- two lists, of any data -/
theorem ed_eqL (ha : EvR K ta δ ds) (hb : EvR K tb δ es) (h1 : SeqAt.shaped (.list ds) = true) (h2 : SeqAt.shaped (.list es) = true) : EvD K (tOp (rEqD K) ta tb) δ (.bool (PyData.eqv (.list ds) (.list es))) := fun H0 F H σ S Q q =>
  ha H0 F H σ S _ fun p xs H2 e2 h2' t2 => hb H0 F H2 σ (S.mono e2) _ fun p' ys H3 e3 h3' t3 =>
    ⟨.list ds, .list es, .lst (ex_l e3 h2') (t2.ex e3).dp, .lst h3' t3.dp, h1, h2, q _ H3 (e2.trans e3) (.bl _)⟩
end
theorem ints_lay : ∀ w : List Int, PyData.canLayAll0 (w.map PyData.int) = true ∧ PyData.depthAll (w.map PyData.int) = 0
  | [] => by simp [PyData.canLayAll0, PyData.depthAll]
  | x :: w => by
    have := ints_lay w
    simp [PyData.canLayAll0, PyData.canLay0, PyData.depth, PyData.depthAll, this.1, this.2]
theorem ints_shaped (w : List Int) : SeqAt.shaped (.list (w.map PyData.int)) = true := by
  have := ints_lay w
  simp [SeqAt.shaped, PyData.canLay0, PyData.depth, this.1, this.2]
theorem ints_nil (w : List Int) : PyData.eqv (.list (w.map PyData.int)) (.list []) = decide (w = []) := by
  cases w <;> simp [PyData.eqv, PyData.eqvAll]
theorem atI_last {α : Type} {ds : List α} {x : α} (h : ds ≠ []) (hx : ds[ds.length - 1]? = some x) : atI ds (-1) = some x := by
  have hl : 0 < ds.length := List.length_pos_iff.mpr h
  unfold atI ixN
  rw [if_neg (by decide), if_pos (by omega)]
  show ds[((-1 : Int) + (ds.length : Int)).toNat]? = some x
  rw [show ((-1 : Int) + (ds.length : Int)).toNat = ds.length - 1 by omega]
  exact hx
theorem at_int {ns : List Int} {k : Nat} (h : k < ns.length) : (ns.map PyData.int)[k]? = some (.int (ns.getD k 0)) := by
  rw [List.getElem?_map, List.getElem?_eq_getElem h, List.getD_eq_getElem?_getD, List.getElem?_eq_getElem h]
  rfl
theorem toNat_mod {a m : Int} (h : 0 < m) : ((a % m).toNat : Int) = a % m := Int.toNat_of_nonneg (Int.emod_nonneg _ (by omega))
abbrev sLCell : Stmt := top 26
theorem scLCell : FnScope ["_law_script", "_law_k"] ["_law_script", "_law_k"] (defScope sLCell) := ⟨rfl, rfl, rfl, by decide +kernel, rfl, by decide +kernel, by decide +kernel⟩
def FLCell (es : List Ent) (r : Ent) : Prop := ∃ (ns : List Int) (k : Nat), es = [.l (ns.map PyData.int), .d (.int (k : Int))] ∧ k ≤ 1000 ∧ r = .d (.int (cellAt ns k))
theorem dfLCell (G : Gs K mg aN aO tR) (D : ∃ f fd, mg "_law_cell_at" = some (.ref f) ∧ FunP K "_law_cell_at" sLCell f fd) : Df P w K mg base "_law_cell_at" 1 ["_law_script", "_law_k"] (spF K FLCell) := by
  refine df_mk D scLCell (fun _ _ _ _ _ _ us hl => match us, hl with | [_, _], _ => rfl) (fun es r h => ?_) fun f cdv A outer s H E hr es r hF => ⟨_, (pss_cons (ps_if (pt_cmpR op_lt (pv 1) (pe_callB call_len1 (by rfl) G.len PySem.boot_len (pa_cons (pv 0) pa_nil)) (nomark _))
      (pss_one (ps_ret (pe_ix ix_list (pv 0) (pv 1) (fun _ _ => rfl))))
      pss_nil)
    (pss_cons (ps_if (pt_cmpR (op_eqD hr.units) (pv 0) (pe_lst pa_nil) (nomark _))
      (pss_one (ps_ret (pe_op op_mod (pe_op op_mul (pe_op op_add (pe_op op_add (pe_op op_mul (pv 1) (pv 1)) (pe_op op_mul pe_int (pv 1))) pe_int) pe_int) pe_int)))
      pss_nil)
    (pss_one (ps_ret (pe_op op_mod (pe_op op_mul (pe_op op_add (pe_op op_mod (pe_ix ix_list (pv 0) (pe_un un_neg pe_int) (fun _ _ => rfl)) pe_int) pe_int) (pe_op op_add (pe_op op_mul (pv 1) (pv 1)) pe_int)) pe_int))))), ?_⟩
  · obtain ⟨ns, k, rfl, _⟩ := h
    rfl
  obtain ⟨ns, k, rfl, hk, rfl⟩ := hF
  try dsimp only [cxOf, Cx.nox, Cx.wish]
  refine run_seq (run_if (b := decide (k < ns.length)) (eb_is (eb_test (ed_B0 (ed_var rfl) (ed_lenL (er_l rfl)))) (by rw [List.length_map]; congr 1; apply propext; omega)) (fun h => ?_) (fun h => ?_))
  · have h := of_decide_eq_true h
    refine run_ret (ed_ixL (er_l rfl) (ed_var rfl) (atI_nat (at_int h))) ?_
    show Ent.d _ = Ent.d _
    rw [cellAt, if_pos h]
  have h := of_decide_eq_false h
  apply run_next
  refine run_seq (run_if (b := decide (ns = [])) (eb_is (eb_test (ed_eqL (er_l rfl) (er_n (en_lstB ea_nil rfl)) (ints_shaped ns) (ints_shaped []))) (ints_nil ns)) (fun h2 => ?_) (fun h2 => ?_))
  · have h2 := of_decide_eq_true h2
    walk_at "go"
    show Ent.d _ = Ent.d _
    rw [cellAt, if_neg h, if_pos h2]
  · have h2 := of_decide_eq_false h2
    apply run_next
    have hl : 0 < ns.length := List.length_pos_iff.mpr h2
    have hx : atI (ns.map PyData.int) (-1) = some (.int (ns.getD (ns.length - 1) 0)) := atI_last (by simpa using h2) (by rw [List.length_map]; exact at_int (by omega))
    refine run_ret (x := .int ((ns.getD (ns.length - 1) 0 % 1000003 + 2) * ((k : Int) * k + 16807) % 2147483629)) (ed_I (ed_I (ed_I0 (ed_I (ed_ixL (er_l rfl) (ed_un ed_int) hx) (by walk_at "ev") (by decide)) (by walk_at "ev")) (by walk_at "ev") (.inl ⟨by omega, by omega⟩)) (by walk_at "ev") (by decide)) ?_
    show Ent.d _ = Ent.d _
    rw [cellAt, if_neg h, if_neg h2]
abbrev sLSmall : Stmt := top 27
theorem scLSmall : FnScope ["_law_cell"] ["_law_cell"] (defScope sLSmall) := ⟨rfl, rfl, rfl, by decide +kernel, rfl, by decide +kernel, by decide +kernel⟩
def FLSmall (es : List Ent) (r : Ent) : Prop := ∃ c : Int, es = [.d (.int c)] ∧ r = .d (.int (lSmall c))
theorem dfLSmall (G : Gs K mg aN aO tR) (D : ∃ f fd, mg "_law_small" = some (.ref f) ∧ FunP K "_law_small" sLSmall f fd) : Df P w K mg base "_law_small" 1 ["_law_cell"] (spF K FLSmall) := by
  refine df_mk D scLSmall (fun _ _ _ _ _ _ us hl => match us, hl with | [_], _ => rfl) (fun es r h => ?_) fun f cdv A outer s H E hr es r hF => ⟨_, (pss_cons (ps_if (pt_cmpR op_eq (pe_op op_mod (pv 0) pe_int) pe_int (nomark _))
      (pss_one (ps_ret (pe_op op_sub (pe_op op_mod (pe_op op_fdiv (pv 0) pe_int) pe_int) pe_int)))
      pss_nil)
    (pss_cons (ps_if (pt_cmpR op_eq (pe_op op_mod (pv 0) pe_int) pe_int (nomark _))
      (pss_one (ps_ret (pe_ix ix_list (pe_lst (pa_cons (pe_un un_neg pe_int) (pa_cons (pe_un un_neg pe_int) (pa_cons (pe_un un_neg pe_int) (pa_cons pe_int (pa_cons pe_int (pa_cons pe_int (pa_cons pe_int pa_nil)))))))) (pe_op op_mod (pe_op op_fdiv (pv 0) pe_int) pe_int) (fun _ _ => rfl))))
      pss_nil)
    (pss_one (ps_ret (pe_op op_sub (pe_op op_mod (pe_op op_mul (pe_op op_fdiv (pv 0) pe_int) pe_int) pe_int) pe_int))))), ?_⟩
  · obtain ⟨c, rfl, _⟩ := h
    rfl
  obtain ⟨c, rfl, rfl⟩ := hF
  try dsimp only [cxOf, Cx.nox, Cx.wish]
  refine run_seq (run_if (b := decide (c % 4 = 0)) (by walk_at "ev") (fun h => ?_) (fun h => ?_))
  · walk_at "go"
    show Ent.d _ = Ent.d _
    rw [lSmall, if_pos (of_decide_eq_true h)]
  apply run_next
  refine run_seq (run_if (b := decide (c % 4 = 1)) (by walk_at "ev") (fun h2 => ?_) (fun h2 => ?_))
  · have hn : (c / 4 % 7).toNat < 7 := by omega
    have hc : c / 4 % 7 = ((c / 4 % 7).toNat : Int) := (toNat_mod (by decide)).symm
    refine run_ret (ed_ixL (ds := edges.map PyData.int) (er_n (en_lstB (ea_cons (ed_un ed_int) (ea_cons (ed_un ed_int) (ea_cons (ed_un ed_int) (ea_cons ed_int (ea_cons ed_int (ea_cons ed_int (ea_cons ed_int ea_nil))))))) rfl)) (ed_is (x := .int (c / 4 % 7)) (by walk_at "ev") (by rw [← hc])) (atI_nat (at_int (ns := edges) hn))) ?_
    show Ent.d _ = Ent.d _
    rw [lSmall, if_neg (of_decide_eq_false h), if_pos (of_decide_eq_true h2)]
  · apply run_next
    walk_at "go"
    show Ent.d _ = Ent.d _
    rw [lSmall, if_neg (of_decide_eq_false h), if_neg (of_decide_eq_false h2)]
abbrev sLOperand : Stmt := top 28
theorem scLOperand : FnScope ["_law_cell", "_law_many"] ["_law_cell", "_law_many"] (defScope sLOperand) := ⟨rfl, rfl, rfl, by decide +kernel, rfl, by decide +kernel, by decide +kernel⟩
def FLOperand (es : List Ent) (r : Ent) : Prop := ∃ (c : Int) (m : Nat), es = [.d (.int c), .d (.int (m : Int))] ∧ m ≤ 5 ∧ r = .d (lOperand c m).enc
theorem dfLOperand (G : Gs K mg aN aO tR) (dLSmall : Df P w K mg base "_law_small" 1 ["_law_cell"] (spF K FLSmall)) (D : ∃ f fd, mg "_law_operand" = some (.ref f) ∧ FunP K "_law_operand" sLOperand f fd) : Df P w K mg base "_law_operand" 2 ["_law_cell", "_law_many"] (spF K FLOperand) := by
  refine df_mk D scLOperand (fun _ _ _ _ _ _ us hl => match us, hl with | [_, _], _ => rfl) (fun es r h => ?_) fun f cdv A outer s H E hr es r hF => ⟨_, (pss_cons (ps_if (PW.pt (pw_and (pt_cmpR op_gt (pv 1) pe_int (nomark _)) (pw_and1 (pt_cmpR op_gt (pe_op op_mod (pv 0) pe_int) pe_int (nomark _)))))
      (pss_one (ps_ret (pe_tup (pa_cons pe_str (pa_cons (pe_op op_mod (pe_op op_fdiv (pv 0) pe_int) (pv 1)) pa_nil)))))
      pss_nil)
    (pss_one (ps_ret (pe_tup (pa_cons pe_str (pa_cons (pe_df dLSmall (hr.mono (by decide)) rfl (pa_cons (pe_op op_fdiv (pv 0) pe_int) pa_nil)) pa_nil)))))), ?_⟩
  · obtain ⟨c, m, rfl, _⟩ := h
    rfl
  obtain ⟨c, m, rfl, hm, rfl⟩ := hF
  try dsimp only [cxOf, Cx.nox, Cx.wish]
  refine run_seq (run_if (b := decide (0 < m) && decide (0 < c % 3)) (eb_and (eb_is (by walk_at "ev") (by congr 1; apply propext; omega)) fun _ => by walk_at "ev") (fun h => ?_) (fun h => ?_))
  · have hm0 : 0 < m := by
      rw [Bool.and_eq_true] at h
      exact of_decide_eq_true h.1
    refine run_ret (x := .tuple [.str "name", .int (c / 3 % (m : Int))]) (ed_tupB (ea_cons ed_str (ea_cons (ed_I (ed_I (ed_var rfl) ed_int ⟨by decide, by decide⟩) (ed_var rfl) (by omega)) ea_nil)) rfl) ?_
    show Ent.d _ = Ent.d _
    rw [lOperand, if_pos h]
    show _ = Ent.d (.tuple [.str "name", .int ((c / 3 % (m : Int)).toNat : Int)])
    rw [toNat_mod (by omega)]
  · apply run_next
    refine run_ret (x := .tuple [.str "number", .int (lSmall (c / 3))]) (ed_tupB (ea_cons ed_str (ea_cons (ed_call (es := [.d (.int (c / 3))]) (by walk_at "ev") ⟨_, rfl, rfl⟩) ea_nil)) rfl) ?_
    show Ent.d _ = Ent.d _
    rw [lOperand, if_neg (by rw [h]; decide)]
    rfl
end Fkh
namespace Fkh
open PySem PySem.Spec PyProof.Rows L2 Evl
local macro_rules | `(tactic| walk_at "ev") => `(tactic| first
  | ((with_reducible apply ed_var); rfl)
  | with_reducible exact ed_int
  | with_reducible exact ed_str
  | with_reducible exact ed_non
  | with_reducible exact ed_bl
  | ((with_reducible apply ed_glob); assumption)
  | with_reducible exact ea_nil
  | with_reducible exact har_nil
  | with_reducible exact ep_none
  | ((with_reducible apply er_l); rfl)
  | ((with_reducible apply er_o); rfl)
  | with_reducible exact rv_eqI
  | with_reducible exact rv_eqS
  | with_reducible exact rv_neI
  | with_reducible exact rv_neS
  | with_reducible exact rv_eqB
  | with_reducible exact rv_isN
  | with_reducible exact rv_ltO
  | with_reducible exact rv_ltOpd
  | ((with_reducible show atI _ _ = some _); first | with_reducible exact atI_cons0 | rfl)
  | ((with_reducible show CMul _ _); first | exact .inl ⟨by omega, by omega⟩ | exact .inr ⟨by omega, by omega⟩)
  | ((with_reducible show (0 : Int) < _); first | decide | omega)
  | ((with_reducible show (0 : Int) ≤ _); omega)
  | ((with_reducible show CPow _ _); exact ⟨by omega, by omega, by decide⟩)
  | ((with_reducible show Nat.ble _ _ = true); rfl)
  | ((with_reducible show flat _ = true); rfl)
  | ((with_reducible show List.all _ _ = true); rfl)
  | ((with_reducible show CDiv _ _); exact ⟨by decide, by decide⟩)
  | ((with_reducible apply ed_ixT) <;> try walk_at "ev")
  | ((with_reducible apply ed_I0) <;> try walk_at "ev")
  | ((with_reducible apply ed_B0) <;> try walk_at "ev")
  | ((with_reducible apply ed_I) <;> try walk_at "ev")
  | ((with_reducible apply ed_ixV) <;> try walk_at "ev")
  | ((with_reducible apply ed_ixL) <;> try walk_at "ev")
  | ((with_reducible apply ed_eqD) <;> try walk_at "ev")
  | ((with_reducible apply ed_neD) <;> try walk_at "ev")
  | ((with_reducible apply ed_isT) <;> try walk_at "ev")
  | ((with_reducible apply ed_niT) <;> try walk_at "ev")
  | ((with_reducible apply ed_catT) <;> try walk_at "ev")
  | ((with_reducible apply ed_repA) <;> try walk_at "ev")
  | ((with_reducible apply ed_op) <;> try walk_at "ev")
  | ((with_reducible apply ed_un) <;> try walk_at "ev")
  | ((with_reducible apply ed_slT) <;> try walk_at "ev")
  | ((with_reducible apply ep_some) <;> try walk_at "ev")
  | ((with_reducible apply ed_lenT) <;> try walk_at "ev")
  | ((with_reducible apply ed_lenL) <;> try walk_at "ev")
  | ((with_reducible apply ed_tupOf) <;> try walk_at "ev")
  | ((with_reducible apply ed_divN) <;> try walk_at "ev")
  | ((with_reducible apply ed_andF); (walk_at "ev"); decide)
  | ((with_reducible apply ed_orT); (walk_at "ev"); decide)
  | ((with_reducible apply ed_andV) <;> (try (first | ((with_reducible show _ = true → _); intro _) | ((with_reducible show _ = false → _); intro _))) <;> try walk_at "ev")
  | ((with_reducible apply ed_orV) <;> (try (first | ((with_reducible show _ = true → _); intro _) | ((with_reducible show _ = false → _); intro _))) <;> try walk_at "ev")
  | ((with_reducible apply ed_notV) <;> try walk_at "ev")
  | ((with_reducible apply ed_tupB) <;> try walk_at "ev")
  | ((with_reducible apply ea_cons) <;> try walk_at "ev")
  | ((with_reducible apply har_d) <;> try walk_at "ev")
  | ((with_reducible apply eb_test) <;> try walk_at "ev")
  | ((with_reducible apply eb_B) <;> try walk_at "ev")
  | ((with_reducible apply eb_andF); (walk_at "ev"); decide)
  | ((with_reducible apply eb_orT); (walk_at "ev"); decide)
  | ((with_reducible apply eb_and) <;> (try (first | ((with_reducible show _ = true → _); intro _) | ((with_reducible show _ = false → _); intro _))) <;> try walk_at "ev")
  | ((with_reducible apply eb_or) <;> (try (first | ((with_reducible show _ = true → _); intro _) | ((with_reducible show _ = false → _); intro _))) <;> try walk_at "ev")
  | ((with_reducible apply eb_not) <;> try walk_at "ev")
  | ((with_reducible apply ed_call) <;> try walk_at "ev"))
local macro_rules | `(tactic| walk_at "go") => `(tactic| first
  | ((with_reducible apply run_seq); walk_at "go")
  | ((with_reducible apply run_next); (try (with_reducible show Run _ _ _ _)); (try walk_at "go"))
  | ((with_reducible apply run_if); (all_goals (try walk_at "ev")); (all_goals (try (((with_reducible show _ = true → _)); intro h; first | exact absurd h (by decide) | (try walk_at "go")))); (all_goals (try (((with_reducible show _ = false → _)); intro h; first | exact absurd h (by decide) | (try walk_at "go")))))
  | ((with_reducible apply run_asg); (all_goals (try walk_at "ev")); (all_goals (try (with_reducible show Run _ _ _ _))); (all_goals (try walk_at "go")))
  | ((with_reducible apply run_asgT2); (all_goals (try walk_at "ev")); (all_goals (try (with_reducible show Run _ _ _ _))); (all_goals (try walk_at "go")))
  | ((with_reducible apply run_ret); (all_goals (try walk_at "ev"))))
variable {P : Program} {w : World} {K : Fg} {mg : Str → Option Value} {base : Heap} {aN aO : Addr} {tR : Tok}
theorem at_map {α : Type} (f : α → PyData) {l : List α} {k : Nat} (d : α) (h : k < l.length) : (l.map f)[k]? = some (f (l.getD k d)) := by
  rw [List.getElem?_map, List.getElem?_eq_getElem h, List.getD_eq_getElem?_getD, List.getElem?_eq_getElem h]
  rfl
theorem at_modI {α : Type} (f : α → PyData) {l : List α} {a : Int} (d : α) (n : Int) (hn : (l.length : Int) = n) (h0 : 0 < n) : atI (l.map f) (a % n) = some (f (l.getD (a % n).toNat d)) := by
  have h1 := Int.emod_nonneg a (by omega : n ≠ 0)
  have h2 := Int.emod_lt_of_pos a h0
  have e : a % n = ((a % n).toNat : Int) := (toNat_mod h0).symm
  have z := atI_nat (at_map f d (l := l) (k := (a % n).toNat) (by omega))
  rw [← e] at z
  exact z
abbrev sLRow : Stmt := top 29
theorem scLRow : FnScope ["_law_cells", "_law_many", "_law_size", "_law_one", "_law_other"] ["_law_cells", "_law_many", "_law_size"] (defScope sLRow) := ⟨rfl, rfl, rfl, by decide +kernel, rfl, by decide +kernel, by decide +kernel⟩
def FLRow (es : List Ent) (r : Ent) : Prop := ∃ (c : Nat → Int) (m n : Nat), es = [.l [.int (c 0), .int (c 1), .int (c 2), .int (c 3)], .d (.int (m : Int)), .d (.int (n : Int))] ∧ m ≤ 5 ∧ n ≤ 1000 ∧ r = .d (lRow c m n).enc
theorem dfLRow (G : Gs K mg aN aO tR) (dLOperand : Df P w K mg base "_law_operand" 2 ["_law_cell", "_law_many"] (spF K FLOperand)) (D : ∃ f fd, mg "_law_row" = some (.ref f) ∧ FunP K "_law_row" sLRow f fd) : Df P w K mg base "_law_row" 3 ["_law_cells", "_law_many", "_law_size"] (spF K FLRow) := by
  refine df_mk D scLRow (fun _ _ _ _ _ _ us hl => match us, hl with | [_, _, _], _ => rfl) (fun es r h => ?_) fun f cdv A outer s H E hr es r hF => ⟨_, (pss_cons (ps_set (i := 3) scLRow.nd rfl (Or.inl rfl) (pe_df dLOperand (hr.mono (by decide)) rfl (pa_cons (pe_ix ix_list (pv 0) pe_int (fun _ _ => rfl)) (pa_cons (pv 1) pa_nil))))
    (pss_cons (ps_set (i := 4) scLRow.nd rfl (Or.inl rfl) (pe_df dLOperand (hr.mono (by decide)) rfl (pa_cons (pe_ix ix_list (pv 0) pe_int (fun _ _ => rfl)) (pa_cons (pv 1) pa_nil))))
    (pss_cons (ps_if (PW.pt (pw_and (pt_cmpR op_lt (pe_op op_mod (pe_ix ix_list (pv 0) pe_int (fun _ _ => rfl)) pe_int) pe_int (nomark _)) (pw_and1 (pt_cmpR op_gt (pv 1) pe_int (nomark _)))))
      (pss_one (ps_ret (pe_tup (pa_cons pe_str (pa_cons (pe_op op_mod (pe_ix ix_list (pv 0) pe_int (fun _ _ => rfl)) (pv 1)) (pa_cons (pv 3) (pa_cons (pe_ix ix_list (pe_lst (pa_cons pe_str (pa_cons pe_str (pa_cons pe_str (pa_cons pe_str (pa_cons pe_str pa_nil)))))) (pe_op op_mod (pe_op op_fdiv (pe_ix ix_list (pv 0) pe_int (fun _ _ => rfl)) pe_int) pe_int) (fun _ _ => rfl)) (pa_cons (pv 4) pa_nil))))))))
      pss_nil)
    (pss_cons (ps_if (pt_cmpR op_lt (pe_op op_mod (pe_ix ix_list (pv 0) pe_int (fun _ _ => rfl)) pe_int) pe_int (nomark _))
      (pss_one (ps_ret (pe_tup (pa_cons pe_str (pa_cons (pv 3) (pa_cons (pe_ix ix_list (pe_lst (pa_cons pe_str (pa_cons pe_str (pa_cons pe_str (pa_cons pe_str (pa_cons pe_str (pa_cons pe_str pa_nil))))))) (pe_op op_mod (pe_op op_fdiv (pe_ix ix_list (pv 0) pe_int (fun _ _ => rfl)) pe_int) pe_int) (fun _ _ => rfl)) (pa_cons (pv 4) (pa_cons (pe_op op_mod (pe_ix ix_list (pv 0) pe_int (fun _ _ => rfl)) (pe_op op_add (pv 2) pe_int)) pa_nil))))))))
      pss_nil)
    (pss_cons (ps_if (pt_cmpR op_eq (pe_op op_mod (pe_ix ix_list (pv 0) pe_int (fun _ _ => rfl)) pe_int) pe_int (nomark _))
      (pss_one (ps_ret (pe_tup (pa_cons pe_str (pa_cons (pv 3) pa_nil)))))
      pss_nil)
    (pss_one (ps_ret (pe_ix ix_list (pe_lst (pa_cons (pe_tup (pa_cons pe_str (pa_cons (pe_op op_mod (pe_ix ix_list (pv 0) pe_int (fun _ _ => rfl)) (pe_op op_add (pv 2) pe_int)) pa_nil))) (pa_cons (pe_tup (pa_cons pe_str pa_nil)) pa_nil))) (pe_op op_mod (pe_op op_fdiv (pe_ix ix_list (pv 0) pe_int (fun _ _ => rfl)) pe_int) pe_int) (fun _ _ => rfl))))))))), ?_⟩
  · obtain ⟨c, m, n, rfl, _⟩ := h
    rfl
  obtain ⟨c, m, n, rfl, hm, hn, rfl⟩ := hF
  dsimp only [cxOf, Cx.nox, Cx.wish]
  refine run_seq (run_asg (x := (lOperand (c 1) m).enc) (ed_call (es := [.d (.int (c 1)), .d (.int (m : Int))]) (har_d (ed_ixL (er_l rfl) ed_int rfl) (har_d (ed_var rfl) har_nil)) ⟨_, _, rfl, hm, rfl⟩) ?_)
  refine run_seq (run_asg (x := (lOperand (c 2) m).enc) (ed_call (es := [.d (.int (c 2)), .d (.int (m : Int))]) (har_d (ed_ixL (er_l rfl) ed_int rfl) (har_d (ed_var rfl) har_nil)) ⟨_, _, rfl, hm, rfl⟩) ?_)
  show Run K _ [some (.l [.int (c 0), .int (c 1), .int (c 2), .int (c 3)]), some (.d (.int (m : Int))), some (.d (.int (n : Int))), some (.d (lOperand (c 1) m).enc), some (.d (lOperand (c 2) m).enc)] _
  have hgo : EvD K (tOp (rI (fun _ j => 0 < j) fun i j => V.int (i % j)) (tOp (rIxL K) (tVar 0) (tC (.int 3))) (tOp (rI0 fun i j => V.int (i + j)) (tVar 2) (tC (.int 1)))) [some (.l [.int (c 0), .int (c 1), .int (c 2), .int (c 3)]), some (.d (.int (m : Int))), some (.d (.int (n : Int))), some (.d (lOperand (c 1) m).enc), some (.d (lOperand (c 2) m).enc)] (.int ((c 3 % ((n : Int) + 1)).toNat : Int)) :=
    ed_is (ed_I (f := fun i j => i % j) (ed_ixL (er_l rfl) ed_int rfl) (ed_I0 (f := fun i j => i + j) (ed_var rfl) ed_int) (by omega)) (by rw [toNat_mod (by omega)])
  have hc0 : ∀ {b : Int}, EvD K (tOp (rI (fun _ j => 0 < j) fun i j => V.int (i % j)) (tOp (rIxL K) (tVar 0) (tC (.int 0))) (tC (.int 8))) [some (.l [.int (c 0), .int (c 1), .int (c 2), .int (c 3)]), some (.d (.int (m : Int))), some (.d (.int (n : Int))), some (.d (lOperand (c 1) m).enc), some (.d (lOperand (c 2) m).enc)] (.int (c 0 % 8)) :=
    fun {b} => ed_I (f := fun i j => i % j) (ed_ixL (er_l rfl) ed_int rfl) ed_int (by decide)
  have hix : ∀ (j : Int), 0 < j → EvD K (tOp (rI (fun _ j => 0 < j) fun i j => V.int (i % j)) (tOp (rI CDiv fun i j => V.int (i / j)) (tOp (rIxL K) (tVar 0) (tC (.int 0))) (tC (.int 8))) (tC (.int j))) [some (.l [.int (c 0), .int (c 1), .int (c 2), .int (c 3)]), some (.d (.int (m : Int))), some (.d (.int (n : Int))), some (.d (lOperand (c 1) m).enc), some (.d (lOperand (c 2) m).enc)] (.int (c 0 / 8 % j)) :=
    fun j hj => ed_I (f := fun i j => i % j) (ed_I (f := fun i j => i / j) (ed_ixL (er_l rfl) ed_int rfl) ed_int ⟨by decide, by decide⟩) ed_int hj
  refine run_seq (run_if (b := decide (c 0 % 8 < 4) && decide (0 < m)) (eb_and (eb_test (ed_B0 (hc0 (b := 0)) ed_int)) fun _ => eb_is (by walk_at "ev") (by congr 1; apply propext; omega)) (fun h => ?_) (fun h => ?_))
  · have hm0 : 0 < m := by
      rw [Bool.and_eq_true] at h
      exact of_decide_eq_true h.2
    refine run_ret (x := (lRow c m n).enc) (ed_is (ed_tupB (ds := [.str "put", .int (c 3 % (m : Int)), (lOperand (c 1) m).enc, .str (sgns.getD (c 0 / 8 % 5).toNat .add).str, (lOperand (c 2) m).enc])
      (ea_cons ed_str (ea_cons (ed_I (f := fun i j => i % j) (ed_ixL (er_l rfl) ed_int rfl) (ed_var rfl) (by omega)) (ea_cons (ed_var rfl) (ea_cons (ed_ixL (ds := sgns.map fun s => .str s.str) (er_n (en_lstB (ea_cons ed_str (ea_cons ed_str (ea_cons ed_str (ea_cons ed_str (ea_cons ed_str ea_nil))))) rfl)) (hix 5 (by decide)) (at_modI _ _ 5 rfl (by decide))) (ea_cons (ed_var rfl) ea_nil))))) rfl) ?_) rfl
    rw [lRow, if_pos h]
    show _ = PyData.tuple [.str "put", .int ((c 3 % (m : Int)).toNat : Int), _, _, _]
    rw [toNat_mod (by omega)]
  have h' : ¬ (decide (c 0 % 8 < 4) && decide (0 < m)) = true := by rw [h]; decide
  apply run_next
  refine run_seq (run_if (b := decide (c 0 % 8 < 6)) (eb_test (ed_B0 (hc0 (b := 0)) ed_int)) (fun h2 => ?_) (fun h2 => ?_))
  · refine run_ret (x := (lRow c m n).enc) (ed_is (ed_tupB (ds := [.str "if", (lOperand (c 1) m).enc, .str (cmps.getD (c 0 / 8 % 6).toNat .lt).str, (lOperand (c 2) m).enc, .int ((c 3 % ((n : Int) + 1)).toNat : Int)])
      (ea_cons ed_str (ea_cons (ed_var rfl) (ea_cons (ed_ixL (ds := cmps.map fun s => .str s.str) (er_n (en_lstB (ea_cons ed_str (ea_cons ed_str (ea_cons ed_str (ea_cons ed_str (ea_cons ed_str (ea_cons ed_str ea_nil)))))) rfl)) (hix 6 (by decide)) (at_modI _ _ 6 rfl (by decide))) (ea_cons (ed_var rfl) (ea_cons hgo ea_nil))))) rfl) ?_) rfl
    rw [lRow, if_neg h', if_pos (of_decide_eq_true h2)]
    rfl
  have h2' := of_decide_eq_false h2
  apply run_next
  refine run_seq (run_if (b := decide (c 0 % 8 = 6)) (eb_test (ed_op (hc0 (b := 0)) ed_int rv_eqI)) (fun h3 => ?_) (fun h3 => ?_))
  · refine run_ret (x := (lRow c m n).enc) (ed_is (ed_tupB (ds := [.str "tell", (lOperand (c 1) m).enc]) (ea_cons ed_str (ea_cons (ed_var rfl) ea_nil)) rfl) ?_) rfl
    rw [lRow, if_neg h', if_neg h2', if_pos (of_decide_eq_true h3)]
    rfl
  have h3' := of_decide_eq_false h3
  apply run_next
  refine run_ret (x := (lRow c m n).enc) (ed_ixL (ds := [Rw.go (c 3 % ((n : Int) + 1)).toNat, Rw.skip].map Rw.enc) (er_n (en_lstB (ea_cons (ed_tupB (ds := [.str "go", .int ((c 3 % ((n : Int) + 1)).toNat : Int)]) (ea_cons ed_str (ea_cons hgo ea_nil)) rfl) (ea_cons (ed_tupB (ds := [.str "skip"]) (ea_cons ed_str ea_nil) rfl) ea_nil)) rfl)) (hix 2 (by decide)) ?_) rfl
  rw [at_modI Rw.enc .skip 2 rfl (by decide)]
  rw [lRow, if_neg h', if_neg h2', if_neg h3']
  rcases (show c 0 / 8 % 2 = 0 ∨ c 0 / 8 % 2 = 1 by omega) with e | e
  · rw [if_pos e, e]
    rfl
  · rw [if_neg (by omega), e]
    rfl
abbrev sLJumps : Stmt := top 30
theorem scLJumps : FnScope ["_law_row_here", "_law_places"] ["_law_row_here", "_law_places"] (defScope sLJumps) := ⟨rfl, rfl, rfl, by decide +kernel, rfl, by decide +kernel, by decide +kernel⟩
def FLJumps (es : List Ent) (r : Ent) : Prop := ∃ (o : Rw) (ps : List Nat) (n : Nat), es = [.d o.enc, .l (ps.map fun t : Nat => PyData.int (t : Int))] ∧ o.TOk n ∧ ps.length = n + 1 ∧ r = .d (lJumps o ps).enc
theorem dfLJumps (G : Gs K mg aN aO tR) (D : ∃ f fd, mg "_law_jumps" = some (.ref f) ∧ FunP K "_law_jumps" sLJumps f fd) : Df P w K mg base "_law_jumps" 1 ["_law_row_here", "_law_places"] (spF K FLJumps) := by
  refine df_mk D scLJumps (fun _ _ _ _ _ _ us hl => match us, hl with | [_, _], _ => rfl) (fun es r h => ?_) fun f cdv A outer s H E hr es r hF => ⟨_, (pss_cons (ps_if (pt_cmpR op_eq (pe_ix ix_tup (pv 0) pe_int (fun _ _ => rfl)) pe_str (nomark _))
      (pss_one (ps_ret (pe_op op_catA (pe_slice sl_tupA (pv 0) po_none (po_some pe_int)) (pe_tup (pa_cons (pe_ix ix_list (pv 1) (pe_ix ix_tup (pv 0) pe_int (fun _ _ => rfl)) (fun _ _ => rfl)) pa_nil)))))
      pss_nil)
    (pss_cons (ps_if (pt_cmpR op_eq (pe_ix ix_tup (pv 0) pe_int (fun _ _ => rfl)) pe_str (nomark _))
      (pss_one (ps_ret (pe_tup (pa_cons pe_str (pa_cons (pe_ix ix_list (pv 1) (pe_ix ix_tup (pv 0) pe_int (fun _ _ => rfl)) (fun _ _ => rfl)) pa_nil)))))
      pss_nil)
    (pss_one (ps_ret (pv 0))))), ?_⟩
  · obtain ⟨o, ps, n, rfl, _⟩ := h
    rfl
  obtain ⟨o, ps, n, rfl, ho, hn, rfl⟩ := hF
  try dsimp only [cxOf, Cx.nox, Cx.wish]
  have at_ : ∀ t, t ≤ n → atI (ps.map fun t : Nat => PyData.int (t : Int)) (t : Int) = some (.int ((ps.getD t 0 : Nat) : Int)) := fun t ht => atI_nat (at_map _ 0 (by omega))
  cases o with
  | cond y s1 z t =>
    dsimp only [Rw.enc, Rw.tag, Rw.args, lJumps]
    refine run_seq (run_if (b := true) (eb_is (by walk_at "ev") (by decide)) (fun _ => ?_) (fun h => by cases h))
    refine run_ret (ed_is (ed_catT (ed_slT (ed_var rfl) ep_none (ep_some ed_int)) (ed_tupB (ea_cons (ed_ixL (er_l rfl) (ed_ixT (ed_var rfl) rfl) (at_ t ho)) ea_nil) rfl) (by show 4 + 1 ≤ 1000000; decide)) rfl) rfl
  | go t =>
    dsimp only [Rw.enc, Rw.tag, Rw.args, lJumps]
    refine run_seq (run_if (b := false) (eb_is (by walk_at "ev") (by decide)) (fun h => by cases h) (fun _ => ?_))
    apply run_next
    refine run_seq (run_if (b := true) (eb_is (by walk_at "ev") (by decide)) (fun _ => ?_) (fun h => by cases h))
    refine run_ret (ed_tupB (ea_cons ed_str (ea_cons (ed_ixL (er_l rfl) (ed_ixT (ed_var rfl) rfl) (at_ t ho)) ea_nil)) rfl) rfl
  | put x y s1 z =>
    dsimp only [Rw.enc, Rw.tag, Rw.args, lJumps]
    refine run_seq (run_if (b := false) (eb_is (by walk_at "ev") (by decide)) (fun h => by cases h) (fun _ => ?_))
    apply run_next
    refine run_seq (run_if (b := false) (eb_is (by walk_at "ev") (by decide)) (fun h => by cases h) (fun _ => ?_))
    apply run_next
    exact run_ret (ed_var rfl) rfl
  | tell y =>
    dsimp only [Rw.enc, Rw.tag, Rw.args, lJumps]
    refine run_seq (run_if (b := false) (eb_is (by walk_at "ev") (by decide)) (fun h => by cases h) (fun _ => ?_))
    apply run_next
    refine run_seq (run_if (b := false) (eb_is (by walk_at "ev") (by decide)) (fun h => by cases h) (fun _ => ?_))
    apply run_next
    exact run_ret (ed_var rfl) rfl
  | skip =>
    dsimp only [Rw.enc, Rw.tag, Rw.args, lJumps]
    refine run_seq (run_if (b := false) (eb_is (by walk_at "ev") (by decide)) (fun h => by cases h) (fun _ => ?_))
    apply run_next
    refine run_seq (run_if (b := false) (eb_is (by walk_at "ev") (by decide)) (fun h => by cases h) (fun _ => ?_))
    apply run_next
    exact run_ret (ed_var rfl) rfl
abbrev sLMirrored : Stmt := top 31
theorem scLMirrored : FnScope ["_law_row_here", "_law_sign"] ["_law_row_here"] (defScope sLMirrored) := ⟨rfl, rfl, rfl, by decide +kernel, rfl, by decide +kernel, by decide +kernel⟩
def FLMirrored (es : List Ent) (r : Ent) : Prop := ∃ (o : Rw), es = [.d o.enc] ∧ r = .d (lMirrored o).enc
theorem dfLMirrored (G : Gs K mg aN aO tR) (D : ∃ f fd, mg "_law_mirrored" = some (.ref f) ∧ FunP K "_law_mirrored" sLMirrored f fd) : Df P w K mg base "_law_mirrored" 1 ["_law_row_here"] (spF K FLMirrored) := by
  refine df_mk D scLMirrored (fun _ _ _ _ _ _ us hl => match us, hl with | [_], _ => rfl) (fun es r h => ?_) fun f cdv A outer s H E hr es r hF => ⟨_, (pss_cons (ps_if (PW.pt (pw_and (pt_cmpR op_eq (pe_ix ix_tup (pv 0) pe_int (fun _ _ => rfl)) pe_str (nomark _)) (pw_and1 (pt_cmpR op_in_seq (pe_ix ix_tup (pv 0) pe_int (fun _ _ => rfl)) (pe_lst (pa_cons pe_str (pa_cons pe_str pa_nil))) rfl))))
      (pss_one (ps_ret (pe_tup (pa_cons pe_str (pa_cons (pe_ix ix_tup (pv 0) pe_int (fun _ _ => rfl)) (pa_cons (pe_ix ix_tup (pv 0) pe_int (fun _ _ => rfl)) (pa_cons (pe_ix ix_tup (pv 0) pe_int (fun _ _ => rfl)) (pa_cons (pe_ix ix_tup (pv 0) pe_int (fun _ _ => rfl)) pa_nil))))))))
      pss_nil)
    (pss_cons (ps_if (pt_cmpR op_eq (pe_ix ix_tup (pv 0) pe_int (fun _ _ => rfl)) pe_str (nomark _))
      (pss_cons (ps_set (i := 1) scLMirrored.nd rfl (Or.inl rfl) (pe_dget2 (hu_of hr) (pe_disp (pps_cons pe_str pe_str (pps_cons pe_str pe_str (pps_cons pe_str pe_str (pps_cons pe_str pe_str pps_nil)))) (by rfl) (by rfl) (fun z => by cases z) (by decide)) (pe_ix ix_tup (pv 0) pe_int (fun _ _ => rfl)) (pe_ix ix_tup (pv 0) pe_int (fun _ _ => rfl)) ⟨rfl, rfl, rfl, rfl⟩))
    (pss_one (ps_ret (pe_tup (pa_cons pe_str (pa_cons (pe_ix ix_tup (pv 0) pe_int (fun _ _ => rfl)) (pa_cons (pv 1) (pa_cons (pe_ix ix_tup (pv 0) pe_int (fun _ _ => rfl)) (pa_cons (pe_ix ix_tup (pv 0) pe_int (fun _ _ => rfl)) pa_nil)))))))))
      pss_nil)
    (pss_one (ps_ret (pv 0))))), ?_⟩
  · obtain ⟨o, rfl, _⟩ := h
    rfl
  obtain ⟨o, rfl, rfl⟩ := hF
  try dsimp only [cxOf, Cx.nox, Cx.wish]
  cases o with
  | cond y s1 z t =>
    dsimp only [Rw.enc, Rw.tag, Rw.args, lMirrored]
    refine run_seq (run_if (b := false) (eb_andF (a := false) (eb_is (by walk_at "ev") (by decide)) rfl) (fun h => by cases h) (fun _ => ?_))
    apply run_next
    refine run_seq (run_if (b := true) (eb_is (by walk_at "ev") (by decide)) (fun _ => ?_) (fun h => by cases h))
    refine run_seq (run_asg (x := .str (flip2 s1).str) (ed_disp4 (s := s1.str) (s2 := s1.str) (ed_ixT (ed_var rfl) rfl) (ed_ixT (ed_var rfl) rfl) (by cases s1 <;> decide +kernel)) ?_)
    exact run_ret (ed_tupB (ea_cons ed_str (ea_cons (ed_ixT (ed_var rfl) rfl) (ea_cons (ed_var rfl) (ea_cons (ed_ixT (ed_var rfl) rfl) (ea_cons (ed_ixT (ed_var rfl) rfl) ea_nil))))) rfl) rfl
  | put x y s1 z =>
    dsimp only [Rw.enc, Rw.tag, Rw.args]
    refine run_seq (run_if (b := decide (s1 = .add) || decide (s1 = .mul)) (eb_is (eb_and (a := true) (eb_is (by walk_at "ev") (by decide)) fun _ => eb_test (ed_isL (x := .str s1.str) (ds := [.str "+", .str "*"]) (ed_ixT (ed_var rfl) rfl) (er_n (en_lstB (ea_cons ed_str (ea_cons ed_str ea_nil)) rfl)) rfl rfl)) (by rw [in_addmul, Bool.true_and])) (fun h => ?_) (fun h => ?_))
    · have e : lMirrored (.put x y s1 z) = .put x z s1 y := by cases s1 <;> first | rfl | cases h
      rw [e]
      exact run_ret (ed_tupB (ea_cons ed_str (ea_cons (ed_ixT (ed_var rfl) rfl) (ea_cons (ed_ixT (ed_var rfl) rfl) (ea_cons (ed_ixT (ed_var rfl) rfl) (ea_cons (ed_ixT (ed_var rfl) rfl) ea_nil))))) rfl) rfl
    · have e : lMirrored (.put x y s1 z) = .put x y s1 z := by cases s1 <;> first | rfl | cases h
      rw [e]
      apply run_next
      refine run_seq (run_if (b := false) (eb_is (by walk_at "ev") (by decide)) (fun h => by cases h) (fun _ => ?_))
      apply run_next
      exact run_ret (ed_var rfl) rfl
  | go t =>
    dsimp only [Rw.enc, Rw.tag, Rw.args, lMirrored]
    refine run_seq (run_if (b := false) (eb_andF (a := false) (eb_is (by walk_at "ev") (by decide)) rfl) (fun h => by cases h) (fun _ => ?_))
    apply run_next
    refine run_seq (run_if (b := false) (eb_is (by walk_at "ev") (by decide)) (fun h => by cases h) (fun _ => ?_))
    apply run_next
    exact run_ret (ed_var rfl) rfl
  | tell y =>
    dsimp only [Rw.enc, Rw.tag, Rw.args, lMirrored]
    refine run_seq (run_if (b := false) (eb_andF (a := false) (eb_is (by walk_at "ev") (by decide)) rfl) (fun h => by cases h) (fun _ => ?_))
    apply run_next
    refine run_seq (run_if (b := false) (eb_is (by walk_at "ev") (by decide)) (fun h => by cases h) (fun _ => ?_))
    apply run_next
    exact run_ret (ed_var rfl) rfl
  | skip =>
    dsimp only [Rw.enc, Rw.tag, Rw.args, lMirrored]
    refine run_seq (run_if (b := false) (eb_andF (a := false) (eb_is (by walk_at "ev") (by decide)) rfl) (fun h => by cases h) (fun _ => ?_))
    apply run_next
    refine run_seq (run_if (b := false) (eb_is (by walk_at "ev") (by decide)) (fun h => by cases h) (fun _ => ?_))
    apply run_next
    exact run_ret (ed_var rfl) rfl
end Fkh
/-! the programs made of a script are in order -/
namespace Fkh
open PySem L2
theorem lSmall_small (c : Int) : Small (lSmall c) := by
  unfold lSmall
  by_cases h : c % 4 = 0
  · rw [if_pos h]
    exact ⟨by omega, by omega⟩
  · rw [if_neg h]
    by_cases h2 : c % 4 = 1
    · rw [if_pos h2]
      have hn : (c / 4 % 7).toNat < 7 := by omega
      generalize (c / 4 % 7).toNat = n at hn
      match n, hn with
      | 0, _ => exact ⟨by decide, by decide⟩
      | 1, _ => exact ⟨by decide, by decide⟩
      | 2, _ => exact ⟨by decide, by decide⟩
      | 3, _ => exact ⟨by decide, by decide⟩
      | 4, _ => exact ⟨by decide, by decide⟩
      | 5, _ => exact ⟨by decide, by decide⟩
      | 6, _ => exact ⟨by decide, by decide⟩
    · rw [if_neg h2]
      exact ⟨by omega, by omega⟩
theorem mod_lt {a : Int} {n : Nat} (h : 0 < n) : (a % (n : Int)).toNat < n := by
  have h1 := Int.emod_nonneg a (by omega : (n : Int) ≠ 0)
  have h2 := Int.emod_lt_of_pos a (by omega : (0 : Int) < n)
  omega
theorem lOperand_ok (c : Int) (m : Nat) : (lOperand c m).Ok m := by
  unfold lOperand
  split
  · rename_i h
    rw [Bool.and_eq_true] at h
    exact mod_lt (of_decide_eq_true h.1)
  · exact lSmall_small _
theorem lRow_ok (c : Nat → Int) (m n : Nat) : (lRow c m n).Ok m n := by
  have h1 := lOperand_ok (c 1) m
  have h2 := lOperand_ok (c 2) m
  have ht : (c 3 % ((n : Int) + 1)).toNat ≤ n := by
    have := mod_lt (a := c 3) (n := n + 1) (by omega)
    rw [show ((n + 1 : Nat) : Int) = (n : Int) + 1 by omega] at this
    omega
  unfold lRow
  dsimp only
  split
  · rename_i h
    rw [Bool.and_eq_true] at h
    exact ⟨mod_lt (of_decide_eq_true h.2), h1, h2⟩
  · split
    · exact ⟨h1, h2, ht⟩
    · split
      · exact h1
      · split
        · exact ht
        · trivial
def lSize (ns : List Int) (way : Nat) : Nat := if way = 5 ∨ way = 6 then (cellAt ns 6 % 13).toNat % 7 else (cellAt ns 6 % 13).toNat
def lRaw (ns : List Int) (many way : Nat) : List Rw := (List.range (lSize ns way)).map fun k => lRow (fun j => cellAt ns (10 + 4 * k + j)) many (lSize ns way)
theorem lRows_eq (ns : List Int) (many way : Nat) : lRows ns many way = if ((way = 5 ∨ way = 6) ∧ 0 < lSize ns way) ∧ isEnd ((lRaw ns many way).getD (lSize ns way - 1) .skip) = false then (lRaw ns many way).set (lSize ns way - 1) (.go (cellAt ns (9 + 4 * lSize ns way) % ((lSize ns way : Int) + 1)).toNat) else lRaw ns many way := rfl
theorem lSize_le (ns : List Int) (way : Nat) : lSize ns way ≤ 12 := by
  unfold lSize
  split <;> omega
theorem lSize_six (ns : List Int) (way : Nat) (h : way = 5 ∨ way = 6) : lSize ns way ≤ 6 := by
  unfold lSize
  rw [if_pos h]
  omega
theorem lRaw_len (ns : List Int) (many way : Nat) : (lRaw ns many way).length = lSize ns way := by
  unfold lRaw
  rw [List.length_map, List.length_range]
theorem lRows_len (ns : List Int) (many way : Nat) : (lRows ns many way).length = lSize ns way := by
  rw [lRows_eq]
  split
  · rw [List.length_set, lRaw_len]
  · rw [lRaw_len]
theorem lRaw_ok {ns : List Int} {many way : Nat} : ∀ o ∈ lRaw ns many way, o.Ok many (lSize ns way) := fun o ho => by
  unfold lRaw at ho
  rw [List.mem_map] at ho
  obtain ⟨k, _, rfl⟩ := ho
  exact lRow_ok _ _ _
theorem mem_set {α : Type} {l : List α} {n : Nat} {a x : α} (h : x ∈ l.set n a) : x = a ∨ x ∈ l := by
  rcases List.mem_or_eq_of_mem_set h with h | h
  · exact .inr h
  · exact .inl h
theorem lRows_ok {ns : List Int} {many way : Nat} : ∀ o ∈ lRows ns many way, o.Ok many (lRows ns many way).length := fun o ho => by
  rw [lRows_len]
  rw [lRows_eq] at ho
  split at ho
  · rcases mem_set ho with rfl | ho
    · have := mod_lt (a := cellAt ns (9 + 4 * lSize ns way)) (n := lSize ns way + 1) (by omega)
      rw [show ((lSize ns way + 1 : Nat) : Int) = (lSize ns way : Int) + 1 by omega] at this
      exact Nat.le_of_lt_succ this
    · exact lRaw_ok o ho
  · exact lRaw_ok o ho
theorem Rw.Ok.mono {m n n' : Nat} {o : Rw} (h : o.Ok m n) (hn : n ≤ n') : o.Ok m n' := by
  cases o with
  | put x y s z => exact h
  | cond y s z t => exact ⟨h.1, h.2.1, Nat.le_trans h.2.2 hn⟩
  | go t => exact Nat.le_trans h hn
  | tell y => exact h
  | skip => trivial
theorem Rw.Ok.tok {m n : Nat} {o : Rw} (h : o.Ok m n) : o.TOk n := by
  cases o with
  | cond y s z t => exact h.2.2
  | go t => exact h
  | _ => trivial
theorem lMirrored_ok {m n : Nat} {o : Rw} (h : o.Ok m n) : (lMirrored o).Ok m n := by
  cases o with
  | put x y s z => cases s <;> first | exact h | exact ⟨h.1, h.2.2, h.2.1⟩
  | cond y s z t => exact ⟨h.2.1, h.1, h.2.2⟩
  | go t => exact h
  | tell y => exact h
  | skip => trivial
theorem getD_le {ps : List Nat} {n' : Nat} (h : ∀ t ∈ ps, t ≤ n') (t : Nat) : ps.getD t 0 ≤ n' := by
  rw [List.getD_eq_getElem?_getD]
  cases e : ps[t]? with
  | none => exact Nat.zero_le _
  | some v => exact h v (List.mem_of_getElem? e)
theorem lJumps_ok {m n n' : Nat} {o : Rw} {ps : List Nat} (h : o.Ok m n) (hp : ∀ t ∈ ps, t ≤ n') : (lJumps o ps).Ok m n' := by
  cases o with
  | put x y s z => exact h
  | cond y s z t => exact ⟨h.1, h.2.1, getD_le hp t⟩
  | go t => exact getD_le hp t
  | tell y => exact h
  | skip => trivial
theorem lFar_le (c : Int) (k copy n : Nat) : lFar c k copy n ≤ n := by
  unfold lFar
  have h : ((c % 1000003 + 1) * ((k : Int) * k + 13 * copy + 5) % 10007 % 2).toNat ≤ 1 := by omega
  calc _ ≤ 1 * n := Nat.mul_le_mul_right n h
    _ = n := Nat.one_mul n
theorem lPlaces_le {far n : Nat} (h : far ≤ n) : ∀ t ∈ lPlaces far n, t ≤ 2 * n := fun t ht => by
  unfold lPlaces at ht
  rcases List.mem_append.mp ht with ht | ht
  · rw [List.mem_map] at ht
    obtain ⟨s, hs, rfl⟩ := ht
    rw [List.mem_range] at hs
    omega
  · rw [List.mem_singleton] at ht
    omega
theorem lPlaces_len (far n : Nat) : (lPlaces far n).length = n + 1 := by simp [lPlaces]
theorem lDoubled_len (rows : List Rw) (c : Int) : (lDoubled rows c).length = 2 * rows.length := by
  unfold lDoubled
  rw [flat_len_const (n := rows.length) (fun a => by rw [List.length_map, List.length_range]), List.length_range]
where
  flat_len_const {α β : Type} {f : α → List β} {n : Nat} (h : ∀ a, (f a).length = n) : ∀ {l : List α}, (l.flatMap f).length = l.length * n := fun {l} => by
    induction l with
    | nil => simp
    | cons a l ih => rw [List.flatMap_cons, List.length_append, h, ih, List.length_cons, Nat.succ_mul, Nat.add_comm]
theorem lDoubled_ok {rows : List Rw} {c : Int} {m : Nat} (h : ∀ o ∈ rows, o.Ok m rows.length) : ∀ o ∈ lDoubled rows c, o.Ok m (2 * rows.length) := fun o ho => by
  unfold lDoubled at ho
  rw [List.mem_flatMap] at ho
  obtain ⟨copy, _, ho⟩ := ho
  rw [List.mem_map] at ho
  obtain ⟨k, hk, rfl⟩ := ho
  rw [List.mem_range] at hk
  refine lJumps_ok (n := rows.length) ?_ (lPlaces_le (lFar_le _ _ _ _))
  rw [List.getD_eq_getElem?_getD, List.getElem?_eq_getElem hk]
  exact h _ (List.getElem_mem hk)
theorem lFresh_ok {f o : Rw} {m n : Nat} (hf : f.Ok m n) (ho : o.Ok m n) : (lFresh f o).Ok m n := by
  cases f <;> cases o <;> first | exact hf | exact ⟨ho.1, hf.2.1, hf.2.2⟩
theorem lTaken_le (ns : List Int) : lTaken ns ≤ 3 := by
  unfold lTaken
  omega
theorem lMany_le (ns : List Int) : lTaken ns ≤ lMany ns ∧ lMany ns ≤ 5 := by
  have h := lTaken_le ns
  unfold lMany
  have := mod_lt (a := cellAt ns 0 / 4) (n := 6 - lTaken ns) (by omega)
  rw [show ((6 - lTaken ns : Nat) : Int) = 6 - (lTaken ns : Int) by omega] at this
  omega
theorem lWay_lt (ns : List Int) : lWay ns < 8 := by
  unfold lWay
  omega
def lO1 (ns : List Int) : List Rw := if lWay ns = 1 ∨ lWay ns = 4 then (lRows ns (lMany ns) (lWay ns)).map lMirrored else lRows ns (lMany ns) (lWay ns)
def lO2 (ns : List Int) : List Rw := if lWay ns = 5 ∨ lWay ns = 6 then lDoubled (lRows ns (lMany ns) (lWay ns)) (cellAt ns 2) else lO1 ns
def lO3 (ns : List Int) : List Rw := if lWay ns = 7 then (lRows ns (lMany ns) (lWay ns)).reverse else lO2 ns
def lAt (ns : List Int) : Nat := (lO3 ns).length - 1 - (cellAt ns 1 / 8 % ((lRows ns (lMany ns) (lWay ns)).length : Int)).toNat
def lFr (ns : List Int) : Rw := lRow (fun j => cellAt ns (2 + j)) (lMany ns) (lRows ns (lMany ns) (lWay ns)).length
theorem lOthers_eq (ns : List Int) : lOthers ns = if (lWay ns = 2 ∨ lWay ns = 3 ∨ lWay ns = 4 ∨ lWay ns = 6) ∧ 0 < (lRows ns (lMany ns) (lWay ns)).length then (lO3 ns).set (lAt ns) (lFresh (lFr ns) ((lO3 ns).getD (lAt ns) .skip)) else lO3 ns := rfl
theorem lO3_len (ns : List Int) : (lO3 ns).length = (if lWay ns = 5 ∨ lWay ns = 6 then 2 else 1) * (lRows ns (lMany ns) (lWay ns)).length := by
  unfold lO3 lO2 lO1
  by_cases h7 : lWay ns = 7
  · rw [if_pos h7, if_neg (by omega), List.length_reverse, Nat.one_mul]
  · rw [if_neg h7]
    by_cases h5 : lWay ns = 5 ∨ lWay ns = 6
    · rw [if_pos h5, if_pos h5, lDoubled_len]
    · rw [if_neg h5, if_neg h5, Nat.one_mul]
      split
      · rw [List.length_map]
      · rfl
theorem lO3_ok (ns : List Int) : ∀ o ∈ lO3 ns, o.Ok (lMany ns) (lO3 ns).length := by
  have hr := lRows_ok (ns := ns) (many := lMany ns) (way := lWay ns)
  intro o ho
  rw [lO3_len]
  unfold lO3 lO2 lO1 at ho
  by_cases h7 : lWay ns = 7
  · rw [if_pos h7] at ho
    rw [if_neg (by omega), Nat.one_mul]
    exact hr o (List.mem_reverse.mp ho)
  · rw [if_neg h7] at ho
    by_cases h5 : lWay ns = 5 ∨ lWay ns = 6
    · rw [if_pos h5] at ho
      rw [if_pos h5]
      exact lDoubled_ok hr o ho
    · rw [if_neg h5] at ho
      rw [if_neg h5, Nat.one_mul]
      split at ho
      · rw [List.mem_map] at ho
        obtain ⟨x, hx, rfl⟩ := ho
        exact lMirrored_ok (hr x hx)
      · exact hr o ho
theorem lO3_le (ns : List Int) : (lO3 ns).length ≤ 12 := by
  rw [lO3_len, lRows_len]
  split
  · rename_i h
    have := lSize_six ns _ h
    omega
  · have := lSize_le ns (lWay ns)
    omega
theorem lO3_ge (ns : List Int) : (lRows ns (lMany ns) (lWay ns)).length ≤ (lO3 ns).length := by
  rw [lO3_len]
  split <;> omega
theorem lAt_lt (ns : List Int) (h : 0 < (lRows ns (lMany ns) (lWay ns)).length) : lAt ns < (lO3 ns).length ∧ (lAt ns : Int) = (lO3 ns).length - 1 - cellAt ns 1 / 8 % ((lRows ns (lMany ns) (lWay ns)).length : Int) := by
  have h1 := lO3_ge ns
  have h2 := mod_lt (a := cellAt ns 1 / 8) h
  have h3 := toNat_mod (a := cellAt ns 1 / 8) (m := ((lRows ns (lMany ns) (lWay ns)).length : Int)) (by omega)
  unfold lAt
  constructor
  · omega
  · omega
theorem lOthers_len (ns : List Int) : (lOthers ns).length = (lO3 ns).length := by
  rw [lOthers_eq]
  split
  · rw [List.length_set]
  · rfl
theorem lOthers_ok (ns : List Int) : ∀ o ∈ lOthers ns, o.Ok (lMany ns) (lOthers ns).length := fun o ho => by
  rw [lOthers_len]
  rw [lOthers_eq] at ho
  split at ho
  · rename_i h
    rcases mem_set ho with rfl | ho
    · have h1 := lAt_lt ns h.2
      refine lFresh_ok ((lRow_ok _ _ _).mono (lO3_ge ns)) ?_
      rw [List.getD_eq_getElem?_getD, List.getElem?_eq_getElem h1.1]
      exact lO3_ok ns _ (List.getElem_mem h1.1)
    · exact lO3_ok ns o ho
  · exact lO3_ok ns o ho
def lOne (ns : List Int) : Prog := ⟨lTaken ns, 0, 4, lMany ns, lRows ns (lMany ns) (lWay ns)⟩
def lOther (ns : List Int) : Prog := ⟨lTaken ns, -9, 9, lMany ns, lOthers ns⟩
theorem lTwo_eq (ns : List Int) : lTwo ns = if cellAt ns 1 / 104 % 2 = 1 then (lOther ns, lOne ns) else (lOne ns, lOther ns) := rfl
theorem lOne_ok (ns : List Int) : (lOne ns).Ok := ⟨(lMany_le ns).2, by show (lRows ns (lMany ns) (lWay ns)).length ≤ 12; rw [lRows_len]; exact lSize_le _ _, (lMany_le ns).1, lRows_ok⟩
theorem lOther_ok (ns : List Int) : (lOther ns).Ok := ⟨(lMany_le ns).2, by show (lOthers ns).length ≤ 12; rw [lOthers_len]; exact lO3_le ns, (lMany_le ns).1, lOthers_ok ns⟩
theorem lTwo_ok (ns : List Int) : (lTwo ns).1.Ok ∧ (lTwo ns).2.Ok := by
  rw [lTwo_eq]
  split
  · exact ⟨lOther_ok ns, lOne_ok ns⟩
  · exact ⟨lOne_ok ns, lOther_ok ns⟩
end Fkh
namespace Fkh
open PySem PySem.Spec PyProof.Rows L2 Evl
local macro_rules | `(tactic| walk_at "ev") => `(tactic| first
  | ((with_reducible apply ed_var); rfl)
  | with_reducible exact ed_int
  | with_reducible exact ed_str
  | with_reducible exact ed_non
  | with_reducible exact ed_bl
  | ((with_reducible apply ed_glob); assumption)
  | with_reducible exact ea_nil
  | with_reducible exact har_nil
  | with_reducible exact ep_none
  | ((with_reducible apply er_l); rfl)
  | ((with_reducible apply er_o); rfl)
  | with_reducible exact rv_eqI
  | with_reducible exact rv_eqS
  | with_reducible exact rv_neI
  | with_reducible exact rv_neS
  | with_reducible exact rv_eqB
  | with_reducible exact rv_isN
  | with_reducible exact rv_ltO
  | with_reducible exact rv_ltOpd
  | ((with_reducible show atI _ _ = some _); first | with_reducible exact atI_cons0 | rfl)
  | ((with_reducible show CMul _ _); first | exact .inl ⟨by omega, by omega⟩ | exact .inr ⟨by omega, by omega⟩)
  | ((with_reducible show (0 : Int) < _); first | decide | omega)
  | ((with_reducible show (0 : Int) ≤ _); omega)
  | ((with_reducible show CPow _ _); exact ⟨by omega, by omega, by decide⟩)
  | ((with_reducible show Nat.ble _ _ = true); rfl)
  | ((with_reducible show flat _ = true); rfl)
  | ((with_reducible show List.all _ _ = true); rfl)
  | ((with_reducible show CDiv _ _); exact ⟨by decide, by decide⟩)
  | ((with_reducible apply ed_ixT) <;> try walk_at "ev")
  | ((with_reducible apply ed_I0) <;> try walk_at "ev")
  | ((with_reducible apply ed_B0) <;> try walk_at "ev")
  | ((with_reducible apply ed_I) <;> try walk_at "ev")
  | ((with_reducible apply ed_ixV) <;> try walk_at "ev")
  | ((with_reducible apply ed_ixL) <;> try walk_at "ev")
  | ((with_reducible apply ed_eqD) <;> try walk_at "ev")
  | ((with_reducible apply ed_neD) <;> try walk_at "ev")
  | ((with_reducible apply ed_isT) <;> try walk_at "ev")
  | ((with_reducible apply ed_niT) <;> try walk_at "ev")
  | ((with_reducible apply ed_catT) <;> try walk_at "ev")
  | ((with_reducible apply ed_repA) <;> try walk_at "ev")
  | ((with_reducible apply ed_op) <;> try walk_at "ev")
  | ((with_reducible apply ed_un) <;> try walk_at "ev")
  | ((with_reducible apply ed_slT) <;> try walk_at "ev")
  | ((with_reducible apply ep_some) <;> try walk_at "ev")
  | ((with_reducible apply ed_lenT) <;> try walk_at "ev")
  | ((with_reducible apply ed_lenL) <;> try walk_at "ev")
  | ((with_reducible apply ed_tupOf) <;> try walk_at "ev")
  | ((with_reducible apply ed_divN) <;> try walk_at "ev")
  | ((with_reducible apply ed_andF); (walk_at "ev"); decide)
  | ((with_reducible apply ed_orT); (walk_at "ev"); decide)
  | ((with_reducible apply ed_andV) <;> (try (first | ((with_reducible show _ = true → _); intro _) | ((with_reducible show _ = false → _); intro _))) <;> try walk_at "ev")
  | ((with_reducible apply ed_orV) <;> (try (first | ((with_reducible show _ = true → _); intro _) | ((with_reducible show _ = false → _); intro _))) <;> try walk_at "ev")
  | ((with_reducible apply ed_notV) <;> try walk_at "ev")
  | ((with_reducible apply ed_tupB) <;> try walk_at "ev")
  | ((with_reducible apply ea_cons) <;> try walk_at "ev")
  | ((with_reducible apply har_d) <;> try walk_at "ev")
  | ((with_reducible apply eb_test) <;> try walk_at "ev")
  | ((with_reducible apply eb_B) <;> try walk_at "ev")
  | ((with_reducible apply eb_andF); (walk_at "ev"); decide)
  | ((with_reducible apply eb_orT); (walk_at "ev"); decide)
  | ((with_reducible apply eb_and) <;> (try (first | ((with_reducible show _ = true → _); intro _) | ((with_reducible show _ = false → _); intro _))) <;> try walk_at "ev")
  | ((with_reducible apply eb_or) <;> (try (first | ((with_reducible show _ = true → _); intro _) | ((with_reducible show _ = false → _); intro _))) <;> try walk_at "ev")
  | ((with_reducible apply eb_not) <;> try walk_at "ev")
  | ((with_reducible apply ed_call) <;> try walk_at "ev"))
local macro_rules | `(tactic| walk_at "go") => `(tactic| first
  | ((with_reducible apply run_seq); walk_at "go")
  | ((with_reducible apply run_next); (try (with_reducible show Run _ _ _ _)); (try walk_at "go"))
  | ((with_reducible apply run_if); (all_goals (try walk_at "ev")); (all_goals (try (((with_reducible show _ = true → _)); intro h; first | exact absurd h (by decide) | (try walk_at "go")))); (all_goals (try (((with_reducible show _ = false → _)); intro h; first | exact absurd h (by decide) | (try walk_at "go")))))
  | ((with_reducible apply run_asg); (all_goals (try walk_at "ev")); (all_goals (try (with_reducible show Run _ _ _ _))); (all_goals (try walk_at "go")))
  | ((with_reducible apply run_asgT2); (all_goals (try walk_at "ev")); (all_goals (try (with_reducible show Run _ _ _ _))); (all_goals (try walk_at "go")))
  | ((with_reducible apply run_ret); (all_goals (try walk_at "ev"))))
variable {P : Program} {w : World} {K : Fg} {mg : Str → Option Value} {base : Heap} {aN aO : Addr} {tR : Tok}
abbrev sLDoubled : Stmt := top 32
theorem scLDoubled : FnScope ["_law_rows_here", "_law_cell", "_law_size", "_law_found", "_law_copy", "_law_k", "_law_far", "_law_t"] ["_law_rows_here", "_law_cell"] (defScope sLDoubled) := ⟨rfl, rfl, rfl, by decide +kernel, rfl, by decide +kernel, by decide +kernel⟩
def FLDoubled (es : List Ent) (r : Ent) : Prop := ∃ (rows : List Rw) (c : Int), es = [.l (rows.map Rw.enc), .d (.int c)] ∧ rows.length ≤ 12 ∧ (∀ o ∈ rows, o.TOk rows.length) ∧ r = .o ((lDoubled rows c).map Rw.enc)
theorem dfLDoubled (G : Gs K mg aN aO tR) (dLJumps : Df P w K mg base "_law_jumps" 1 ["_law_row_here", "_law_places"] (spF K FLJumps)) (D : ∃ f fd, mg "_law_doubled" = some (.ref f) ∧ FunP K "_law_doubled" sLDoubled f fd) : Df P w K mg base "_law_doubled" 2 ["_law_rows_here", "_law_cell"] (spF K FLDoubled) := by
  refine df_mk D scLDoubled (fun _ _ _ _ _ _ us hl => match us, hl with | [_, _], _ => rfl) (fun es r h => ?_) fun f cdv A outer s H E hr es r hF => ⟨_, (pss_cons (ps_set (i := 2) scLDoubled.nd rfl (Or.inl rfl) (pe_callB call_len1 (by rfl) G.len PySem.boot_len (pa_cons (pv 0) pa_nil)))
    (pss_cons (ps_set (i := 3) scLDoubled.nd rfl (Or.inl rfl) (pe_lst pa_nil))
    (pss_cons (ps_for PassesOwn.never rfl (pi_range1 rfl G.range (pa_cons pe_int pa_nil)) (pg_name (i := 4) scLDoubled.nd rfl (Or.inl rfl))
      (pss_one (ps_for PassesOwn.never rfl (pi_range1 rfl G.range (pa_cons (pv 2) pa_nil)) (pg_name (i := 5) scLDoubled.nd rfl (Or.inl rfl))
      (pss_cons (ps_set (i := 6) scLDoubled.nd rfl (Or.inr rfl) (pe_op op_mul (pe_op op_mod (pe_op op_mod (pe_op op_mul (pe_op op_add (pe_op op_mod (pv 1) pe_int) pe_int) (pe_op op_add (pe_op op_add (pe_op op_mul (pv 5) (pv 5)) (pe_op op_mul pe_int (pv 4))) pe_int)) pe_int) pe_int) (pv 2)))
    (pss_one (ps_expr (pe_bm PySem.F.plainAttrs_list PySem.F.slot_list_append PySem.F.type_list_append mt_append (pv 3) (pa_cons (pe_df dLJumps (hr.mono (by decide)) rfl (pa_cons (pe_ix ix_list (pv 0) (pv 5) (fun _ _ => rfl)) (pa_cons (pe_op op_cat (pe_lc (own := [("_law_t", 7)]) (tt := tYes) rfl scLDoubled.nd (pi_range1 rfl G.range (pa_cons (pv 2) pa_nil)) (blkOk_by (own := [("_law_t", 7)]) (N := ["_law_rows_here", "_law_cell", "_law_size", "_law_found", "_law_copy", "_law_k", "_law_far", "_law_t"]) (sc := defScope sLDoubled) (by decide +kernel)) (fun _ _ _ _ _ => (pg_name (i := 7) scLDoubled.nd rfl (Or.inl rfl) (.inr rfl))) (fun _ _ _ _ _ => pts_nil) (fun _ _ _ _ _ => (pe_op op_add (pv 7) (pv 6)))) (pe_lst (pa_cons (pe_op op_mul pe_int (pv 2)) pa_nil))) pa_nil))) pa_nil))))))))
    (pss_one (ps_ret (pv 3)))))), ?_⟩
  · obtain ⟨rows, c, rfl, _⟩ := h
    rfl
  obtain ⟨rows, c, rfl, hl, ho, rfl⟩ := hF
  dsimp only [cxOf, Cx.nox, Cx.wish]
  let n := rows.length
  let f : Nat → Nat → Rw := fun copy k => lJumps (rows.getD k .skip) (lPlaces (lFar c k copy n) n)
  let out : Nat → List Rw := fun i => (List.range i).flatMap fun copy => (List.range n).map (f copy)
  have hout : ∀ i, (out i).length = i * n := fun i => by
    show ((List.range i).flatMap fun copy => (List.range n).map (f copy)).length = _
    rw [lDoubled_len.flat_len_const (n := n) (fun a => by rw [List.length_map, List.length_range]), List.length_range]
  refine run_seq (run_asg (x := .int (n : Int)) (ed_is (ed_lenL (er_l rfl)) (by rw [List.length_map])) ?_)
  refine run_seq (run_asgN (ds := []) (en_lstB ea_nil rfl) ?_)
  refine run_seq (run_forR (n := 2) (fun i d => ∃ x4 x5 x6 x7, d = [some (.l (rows.map Rw.enc)), some (.d (.int c)), some (.d (.int (n : Int))), some (.o ((out i).map Rw.enc)), x4, x5, x6, x7]) ed_int (by decide) ⟨none, none, none, none, rfl⟩ (fun i d hi hd => ?_) (fun d hd => ?_))
  · obtain ⟨x4, x5, x6, x7, rfl⟩ := hd
    show Run K _ [some (.l (rows.map Rw.enc)), some (.d (.int c)), some (.d (.int (n : Int))), some (.o ((out i).map Rw.enc)), some (.d (.int (i : Int))), x5, x6, x7] _
    refine run_forR (n := n) (fun k d => ∃ x5 x6 x7, d = [some (.l (rows.map Rw.enc)), some (.d (.int c)), some (.d (.int (n : Int))), some (.o ((out i ++ (List.range k).map (f i)).map Rw.enc)), some (.d (.int (i : Int))), x5, x6, x7]) (ed_var rfl) (by omega) ⟨x5, x6, x7, by rw [List.range_zero, List.map_nil, List.append_nil]⟩ (fun k d hk hd => ?_) (fun d hd => ?_)
    · obtain ⟨x5, x6, x7, rfl⟩ := hd
      show Run K _ [some (.l (rows.map Rw.enc)), some (.d (.int c)), some (.d (.int (n : Int))), some (.o ((out i ++ (List.range k).map (f i)).map Rw.enc)), some (.d (.int (i : Int))), some (.d (.int (k : Int))), x6, x7] _
      have hkn : k < n := hk
      have hn12 : n ≤ 12 := hl
      have hkk : (0 : Int) ≤ (k : Int) * k ∧ (k : Int) * k ≤ 144 := by
        have h1 : (k : Int) ≤ 12 := by omega
        have h0 : (0 : Int) ≤ (k : Int) := by omega
        constructor
        · exact Int.mul_nonneg h0 h0
        · calc (k : Int) * k ≤ 12 * 12 := Int.mul_le_mul h1 h1 h0 (by decide)
            _ = 144 := by decide
      have hf0 : (0 : Int) ≤ (c % 1000003 + 1) * ((k : Int) * k + 13 * (i : Int) + 5) % 10007 % 2 := Int.emod_nonneg _ (by decide)
      have hfar : (c % 1000003 + 1) * ((k : Int) * k + 13 * (i : Int) + 5) % 10007 % 2 * (n : Int) = ((lFar c k i n : Nat) : Int) := by
        unfold lFar
        rw [Int.natCast_mul, Int.toNat_of_nonneg hf0]
      refine run_seq (run_asg (x := .int ((lFar c k i n : Nat) : Int)) (ed_is (x := .int ((c % 1000003 + 1) * ((k : Int) * k + 13 * (i : Int) + 5) % 10007 % 2 * (n : Int))) (ed_I (f := fun i j => i * j) (ed_I (f := fun i j => i % j) (ed_I (f := fun i j => i % j) (ed_I (f := fun i j => i * j) (by walk_at "ev") (by walk_at "ev") (.inl ⟨by omega, by omega⟩)) (by walk_at "ev") (by decide)) (by walk_at "ev") (by decide)) (by walk_at "ev") (.inl ⟨by omega, by omega⟩)) (by rw [hfar])) ?_)
      show Run K _ [some (.l (rows.map Rw.enc)), some (.d (.int c)), some (.d (.int (n : Int))), some (.o ((out i ++ (List.range k).map (f i)).map Rw.enc)), some (.d (.int (i : Int))), some (.d (.int (k : Int))), some (.d (.int ((lFar c k i n : Nat) : Int))), x7] _
      refine run_app (i := 3) (ds := (out i ++ (List.range k).map (f i)).map Rw.enc) (x := (f i k).enc) rfl (ed_call (es := [.d (rows.getD k .skip).enc, .l ((lPlaces (lFar c k i n) n).map fun t : Nat => PyData.int (t : Int))]) (har_d (ed_ixL (er_l rfl) (ed_var rfl) (atI_nat (at_map Rw.enc .skip hkn))) (har_l (er_n ?_) har_nil)) ⟨_, _, n, rfl, ?_, lPlaces_len _ _, rfl⟩) ?_ ?_
      · have e : (lPlaces (lFar c k i n) n).map (fun t : Nat => PyData.int (t : Int)) = (List.range n).map (fun t : Nat => PyData.int ((t : Int) + ((lFar c k i n : Nat) : Int))) ++ [.int (2 * (n : Int))] := by
          unfold lPlaces
          rw [List.map_append, List.map_map]
          congr 1
        rw [e]
        refine en_cat (en_lcR (vs := [7]) (fun t : Nat => PyData.int ((t : Int) + ((lFar c k i n : Nat) : Int))) (ed_var rfl) (by omega) (by decide) fun t ht => by walk_at "ev") (en_lstB (by walk_at "ev") rfl) ?_
        rw [List.length_map, List.length_range]
        show n + 1 ≤ 1000000
        omega
      · rw [List.getD_eq_getElem?_getD, List.getElem?_eq_getElem hkn]
        exact ho _ (List.getElem_mem hkn)
      · rw [List.length_map, List.length_append, hout, List.length_map, List.length_range]
        have : i * n ≤ 2 * 12 := Nat.mul_le_mul (by omega) hl
        omega
      · refine ⟨some (.d (.int (k : Int))), some (.d (.int ((lFar c k i n : Nat) : Int))), x7, ?_⟩
        have e3 : (out i ++ (List.range (k + 1)).map (f i)).map Rw.enc = (out i ++ (List.range k).map (f i)).map Rw.enc ++ [(f i k).enc] := by simp [List.range_succ]
        rw [e3]
        rfl
    · obtain ⟨x5, x6, x7, rfl⟩ := hd
      refine ⟨some (.d (.int (i : Int))), x5, x6, x7, ?_⟩
      have e : out (i + 1) = out i ++ (List.range n).map (f i) := by
        show (List.range (i + 1)).flatMap _ = _
        rw [List.range_succ, List.flatMap_append, List.flatMap_cons, List.flatMap_nil, List.append_nil]
      rw [e]
  · obtain ⟨x4, x5, x6, x7, rfl⟩ := hd
    exact run_retO (i := 3) rfl rfl
theorem in_56 : ∀ way, way < 8 → inD (.int ((way : Nat) : Int)) [.int 5, .int 6] = decide (way = 5 ∨ way = 6) := by decide +kernel
theorem in_2346 : ∀ way, way < 8 → inD (.int ((way : Nat) : Int)) [.int 2, .int 3, .int 4, .int 6] = decide (way = 2 ∨ way = 3 ∨ way = 4 ∨ way = 6) := by decide +kernel
theorem in_015 : ∀ way, way < 8 → inD (.int ((way : Nat) : Int)) [.int 0, .int 1, .int 5] = decide (way = 0 ∨ way = 1 ∨ way = 5) := by decide +kernel
theorem in_end (o : Rw) : inD (.str o.tag) [.str "go", .str "tell"] = isEnd o := by cases o <;> (dsimp only [Rw.tag, isEnd]; decide +kernel)
abbrev sLRows : Stmt := top 33
theorem scLRows : FnScope ["_law_script", "_law_many", "_law_way", "_law_size", "_law_rows_here", "_law_k", "_law_j"] ["_law_script", "_law_many", "_law_way"] (defScope sLRows) := ⟨rfl, rfl, rfl, by decide +kernel, rfl, by decide +kernel, by decide +kernel⟩
def FLRows (es : List Ent) (r : Ent) : Prop := ∃ (ns : List Int) (m way : Nat), es = [.l (ns.map PyData.int), .d (.int (m : Int)), .d (.int (way : Int))] ∧ m ≤ 5 ∧ way < 8 ∧ r = .o ((lRows ns m way).map Rw.enc)
theorem dfLRows (G : Gs K mg aN aO tR) (dLCell : Df P w K mg base "_law_cell_at" 1 ["_law_script", "_law_k"] (spF K FLCell)) (dLRow : Df P w K mg base "_law_row" 3 ["_law_cells", "_law_many", "_law_size"] (spF K FLRow)) (D : ∃ f fd, mg "_law_rows" = some (.ref f) ∧ FunP K "_law_rows" sLRows f fd) : Df P w K mg base "_law_rows" 4 ["_law_script", "_law_many", "_law_way"] (spF K FLRows) := by
  refine df_mk D scLRows (fun _ _ _ _ _ _ us hl => match us, hl with | [_, _, _], _ => rfl) (fun es r h => ?_) fun f cdv A outer s H E hr es r hF => ⟨_, (pss_cons (ps_set (i := 3) scLRows.nd rfl (Or.inl rfl) (pe_op op_mod (pe_df dLCell (hr.mono (by decide)) rfl (pa_cons (pv 0) (pa_cons pe_int pa_nil))) pe_int))
    (pss_cons (ps_if (PW.pt (pw_or (pt_cmpR op_eq (pv 2) pe_int (nomark _)) (pw_or1 (pt_cmpR op_eq (pv 2) pe_int (nomark _)))))
      (pss_one (ps_set (i := 3) scLRows.nd rfl (Or.inl rfl) (pe_op op_mod (pv 3) pe_int)))
      pss_nil)
    (pss_cons (ps_set (i := 4) scLRows.nd rfl (Or.inl rfl) (pe_lst pa_nil))
    (pss_cons (ps_for PassesOwn.never rfl (pi_range1 rfl G.range (pa_cons (pv 3) pa_nil)) (pg_name (i := 5) scLRows.nd rfl (Or.inr rfl))
      (pss_one (ps_expr (pe_bm PySem.F.plainAttrs_list PySem.F.slot_list_append PySem.F.type_list_append mt_append (pv 4) (pa_cons (pe_df dLRow (hr.mono (by decide)) rfl (pa_cons (pe_lc (own := [("_law_j", 6)]) (tt := tYes) rfl scLRows.nd (pi_range1 rfl G.range (pa_cons pe_int pa_nil)) (blkOk_by (own := [("_law_j", 6)]) (N := ["_law_script", "_law_many", "_law_way", "_law_size", "_law_rows_here", "_law_k", "_law_j"]) (sc := defScope sLRows) (by decide +kernel)) (fun _ _ _ _ _ => (pg_name (i := 6) scLRows.nd rfl (Or.inl rfl) (.inr rfl))) (fun _ _ _ _ _ => pts_nil) (fun _ _ _ _ _ => (pe_df dLCell (hr.mono (by decide)) rfl (pa_cons (pv 0) (pa_cons (pe_op op_add (pe_op op_add pe_int (pe_op op_mul pe_int (pv 5))) (pv 6)) pa_nil))))) (pa_cons (pv 1) (pa_cons (pv 3) pa_nil)))) pa_nil)))))
    (pss_cons (ps_if (PW.pt (pw_and (pt_cmpR op_in_seq (pv 2) (pe_lst (pa_cons pe_int (pa_cons pe_int pa_nil))) rfl) (pw_and (pt_cmpR op_gt (pv 3) pe_int (nomark _)) (pw_and1 (pt_cmpR op_notIn_seq (pe_ix ix_tup (pe_ix ix_list (pv 4) (pe_un un_neg pe_int) (fun _ _ => rfl)) pe_int (fun _ _ => rfl)) (pe_lst (pa_cons pe_str (pa_cons pe_str pa_nil))) rfl)))))
      (pss_one (ps_asg (pe_tup (pa_cons pe_str (pa_cons (pe_op op_mod (pe_df dLCell (hr.mono (by decide)) rfl (pa_cons (pv 0) (pa_cons (pe_op op_add pe_int (pe_op op_mul pe_int (pv 3))) pa_nil))) (pe_op op_add (pv 3) pe_int)) pa_nil))) (pg_sub (pv 4) (pe_un un_neg pe_int) set_list)))
      pss_nil)
    (pss_one (ps_ret (pv 4)))))))), ?_⟩
  · obtain ⟨ns, m, way, rfl, _⟩ := h
    rfl
  obtain ⟨ns, m, way, rfl, hm, hw, rfl⟩ := hF
  dsimp only [cxOf, Cx.nox, Cx.wish]
  have s0 : cellAt ns 6 % 13 = ((cellAt ns 6 % 13).toNat : Int) := (toNat_mod (by decide)).symm
  refine run_seq (run_asg (x := .int (cellAt ns 6 % 13)) (ed_I (f := fun i j => i % j) (ed_call (es := [.l (ns.map PyData.int), .d (.int 6)]) (har_l (er_l rfl) (har_d ed_int har_nil)) ⟨ns, 6, rfl, by decide, rfl⟩) ed_int (by decide)) ?_)
  refine run_cut [some (.l (ns.map PyData.int)), some (.d (.int (m : Int))), some (.d (.int (way : Int))), some (.d (.int (lSize ns way : Int))), none, none, none] ?_ ?_
  · refine run_if (b := decide (way = 5 ∨ way = 6)) (eb_is (eb_or (a := decide (way = 5)) (b := decide (way = 6)) (eb_is (by walk_at "ev") (by congr 1; apply propext; omega)) fun _ => eb_is (by walk_at "ev") (by congr 1; apply propext; omega)) (by rw [Bool.decide_or])) (fun h => ?_) (fun h => ?_)
    · have h := of_decide_eq_true h
      refine run_asg (x := .int (lSize ns way : Int)) (ed_is (ed_I (f := fun i j => i % j) (ed_var rfl) ed_int (by decide)) ?_) rfl
      unfold lSize
      rw [if_pos h]
      congr 1
      omega
    · have h := of_decide_eq_false h
      apply run_next
      show _ = _
      unfold lSize
      rw [if_neg h, ← s0]
      rfl
  have hz := lSize_le ns way
  have hrl := lRaw_len ns m way
  refine run_seq (run_asgN (ds := []) (en_lstB ea_nil rfl) ?_)
  let part : Nat → List Rw := fun i => (List.range i).map fun k => lRow (fun j => cellAt ns (10 + 4 * k + j)) m (lSize ns way)
  refine run_seq (run_forR (n := lSize ns way) (fun i d => ∃ x5 x6, d = [some (.l (ns.map PyData.int)), some (.d (.int (m : Int))), some (.d (.int (way : Int))), some (.d (.int (lSize ns way : Int))), some (.o ((part i).map Rw.enc)), x5, x6]) (ed_var rfl) (by omega) ⟨none, none, rfl⟩ (fun k d hk hd => ?_) (fun d hd => ?_))
  · obtain ⟨x5, x6, rfl⟩ := hd
    show Run K _ [some (.l (ns.map PyData.int)), some (.d (.int (m : Int))), some (.d (.int (way : Int))), some (.d (.int (lSize ns way : Int))), some (.o ((part k).map Rw.enc)), some (.d (.int (k : Int))), x6] _
    refine run_app (i := 4) (ds := (part k).map Rw.enc) (x := (lRow (fun j => cellAt ns (10 + 4 * k + j)) m (lSize ns way)).enc) rfl
      (ed_call (es := [.l [.int (cellAt ns (10 + 4 * k + 0)), .int (cellAt ns (10 + 4 * k + 1)), .int (cellAt ns (10 + 4 * k + 2)), .int (cellAt ns (10 + 4 * k + 3))], .d (.int (m : Int)), .d (.int (lSize ns way : Int))])
        (har_l (er_n (en_lcR (n := 4) (vs := [6]) (fun j => PyData.int (cellAt ns (10 + 4 * k + j))) ed_int (by decide) (by decide) fun j hj => ed_call (es := [.l (ns.map PyData.int), .d (.int ((10 + 4 * k + j : Nat) : Int))]) (har_l (er_l rfl) (har_d (ed_is (x := .int (10 + 4 * (k : Int) + (j : Int))) (by walk_at "ev") (by congr 1)) har_nil)) ⟨ns, _, rfl, by omega, rfl⟩)) (har_d (ed_var rfl) (har_d (ed_var rfl) har_nil))) ⟨fun j => cellAt ns (10 + 4 * k + j), m, lSize ns way, rfl, hm, by omega, rfl⟩) ?_ ?_
    · rw [List.length_map]
      show ((List.range k).map _).length < _
      rw [List.length_map, List.length_range]
      omega
    · refine ⟨some (.d (.int (k : Int))), x6, ?_⟩
      have e : part (k + 1) = part k ++ [lRow (fun j => cellAt ns (10 + 4 * k + j)) m (lSize ns way)] := by
        show (List.range (k + 1)).map _ = _
        rw [List.range_succ, List.map_append]
        rfl
      rw [e, List.map_append]
      rfl
  · obtain ⟨x5, x6, rfl⟩ := hd
    have ep : part (lSize ns way) = lRaw ns m way := rfl
    rw [ep]
    generalize hq : lRaw ns m way = q at hrl
    have hlast : 0 < lSize ns way → atI (q.map Rw.enc) (-1) = some (q.getD (lSize ns way - 1) .skip).enc := fun h0 => atI_last (by
      intro z
      have := congrArg List.length z
      rw [List.length_map, List.length_nil] at this
      omega) (by
      rw [List.length_map, hrl]
      exact at_map Rw.enc .skip (by omega))
    refine run_cut [some (.l (ns.map PyData.int)), some (.d (.int (m : Int))), some (.d (.int (way : Int))), some (.d (.int (lSize ns way : Int))), some (.o ((lRows ns m way).map Rw.enc)), x5, x6] ?_ ?_
    · refine run_if (b := decide (((way = 5 ∨ way = 6) ∧ 0 < lSize ns way) ∧ isEnd (q.getD (lSize ns way - 1) .skip) = false)) (eb_is (eb_and (a := decide (way = 5 ∨ way = 6)) (eb_is (eb_test (ed_isL (x := .int (way : Int)) (ds := [.int 5, .int 6]) (ed_var rfl) (er_n (en_lstB (by walk_at "ev") rfl)) rfl rfl)) (in_56 way hw)) fun _ =>
        eb_and (a := decide (0 < lSize ns way)) (eb_is (eb_test (ed_B0 (ed_var rfl) ed_int)) (by congr 1; apply propext; omega)) fun h0 => eb_test (ed_niL (x := .str (q.getD (lSize ns way - 1) .skip).tag) (ds := [.str "go", .str "tell"]) (ed_ixT (ds := .str (q.getD (lSize ns way - 1) .skip).tag :: (q.getD (lSize ns way - 1) .skip).args) (ed_ixL (er_o rfl) (ed_un ed_int) (hlast (of_decide_eq_true h0))) atI_cons0) (er_n (en_lstB (by walk_at "ev") rfl)) rfl rfl))
        (by rw [in_end]; by_cases a1 : way = 5 ∨ way = 6 <;> by_cases a2 : 0 < lSize ns way <;> cases a3 : isEnd (q.getD (lSize ns way - 1) .skip) <;> simp [a1, a2])) (fun h => ?_) (fun h => ?_)
      · have h := of_decide_eq_true h
        have h0 := h.1.2
        have hsz : 9 + 4 * lSize ns way ≤ 1000 := by omega
        have el : ixN (q.map Rw.enc).length (-1) = some (lSize ns way - 1) := by
          rw [List.length_map, hrl]
          unfold ixN
          rw [if_neg (by decide), if_pos (by omega)]
          congr 1
          omega
        refine run_setL (i := 4) (n := -1) (x := (Rw.go (cellAt ns (9 + 4 * lSize ns way) % ((lSize ns way : Int) + 1)).toNat).enc) rfl (ed_is (x := .tuple [.str "go", .int (cellAt ns (9 + 4 * lSize ns way) % ((lSize ns way : Int) + 1))]) (ed_tupB (ea_cons ed_str (ea_cons (ed_I (f := fun i j => i % j) (ed_call (es := [.l (ns.map PyData.int), .d (.int ((9 + 4 * lSize ns way : Nat) : Int))]) (har_l (er_l rfl) (har_d (ed_is (x := .int (9 + 4 * (lSize ns way : Int))) (by walk_at "ev") (by congr 1)) har_nil)) ⟨ns, _, rfl, hsz, rfl⟩) (ed_I0 (f := fun i j => i + j) (ed_var rfl) ed_int) (by omega)) ea_nil)) rfl) ?_) (ed_un ed_int) el ?_
        · show _ = PyData.tuple [.str "go", .int ((cellAt ns (9 + 4 * lSize ns way) % ((lSize ns way : Int) + 1)).toNat : Int)]
          rw [toNat_mod (by omega)]
        · show _ = _
          rw [lRows_eq, hq, if_pos h, List.map_set]
          rfl
      · have h := of_decide_eq_false h
        apply run_next
        show _ = _
        rw [lRows_eq, hq, if_neg h]
    · exact run_retO (i := 4) rfl rfl
end Fkh
namespace Fkh
open PySem PySem.Spec PyProof.Rows L2 Evl
local macro_rules | `(tactic| walk_at "ev") => `(tactic| first
  | ((with_reducible apply ed_var); rfl)
  | with_reducible exact ed_int
  | with_reducible exact ed_str
  | with_reducible exact ed_non
  | with_reducible exact ed_bl
  | ((with_reducible apply ed_glob); assumption)
  | with_reducible exact ea_nil
  | with_reducible exact har_nil
  | with_reducible exact ep_none
  | ((with_reducible apply er_l); rfl)
  | ((with_reducible apply er_o); rfl)
  | with_reducible exact rv_eqI
  | with_reducible exact rv_eqS
  | with_reducible exact rv_neI
  | with_reducible exact rv_neS
  | with_reducible exact rv_eqB
  | with_reducible exact rv_isN
  | with_reducible exact rv_ltO
  | with_reducible exact rv_ltOpd
  | ((with_reducible show atI _ _ = some _); first | with_reducible exact atI_cons0 | rfl)
  | ((with_reducible show CMul _ _); first | exact .inl ⟨by omega, by omega⟩ | exact .inr ⟨by omega, by omega⟩)
  | ((with_reducible show (0 : Int) < _); first | decide | omega)
  | ((with_reducible show (0 : Int) ≤ _); omega)
  | ((with_reducible show CPow _ _); exact ⟨by omega, by omega, by decide⟩)
  | ((with_reducible show Nat.ble _ _ = true); rfl)
  | ((with_reducible show flat _ = true); rfl)
  | ((with_reducible show List.all _ _ = true); rfl)
  | ((with_reducible show CDiv _ _); exact ⟨by decide, by decide⟩)
  | ((with_reducible apply ed_ixT) <;> try walk_at "ev")
  | ((with_reducible apply ed_I0) <;> try walk_at "ev")
  | ((with_reducible apply ed_B0) <;> try walk_at "ev")
  | ((with_reducible apply ed_I) <;> try walk_at "ev")
  | ((with_reducible apply ed_ixV) <;> try walk_at "ev")
  | ((with_reducible apply ed_ixL) <;> try walk_at "ev")
  | ((with_reducible apply ed_eqD) <;> try walk_at "ev")
  | ((with_reducible apply ed_neD) <;> try walk_at "ev")
  | ((with_reducible apply ed_isT) <;> try walk_at "ev")
  | ((with_reducible apply ed_niT) <;> try walk_at "ev")
  | ((with_reducible apply ed_catT) <;> try walk_at "ev")
  | ((with_reducible apply ed_repA) <;> try walk_at "ev")
  | ((with_reducible apply ed_op) <;> try walk_at "ev")
  | ((with_reducible apply ed_un) <;> try walk_at "ev")
  | ((with_reducible apply ed_slT) <;> try walk_at "ev")
  | ((with_reducible apply ep_some) <;> try walk_at "ev")
  | ((with_reducible apply ed_lenT) <;> try walk_at "ev")
  | ((with_reducible apply ed_lenL) <;> try walk_at "ev")
  | ((with_reducible apply ed_tupOf) <;> try walk_at "ev")
  | ((with_reducible apply ed_divN) <;> try walk_at "ev")
  | ((with_reducible apply ed_andF); (walk_at "ev"); decide)
  | ((with_reducible apply ed_orT); (walk_at "ev"); decide)
  | ((with_reducible apply ed_andV) <;> (try (first | ((with_reducible show _ = true → _); intro _) | ((with_reducible show _ = false → _); intro _))) <;> try walk_at "ev")
  | ((with_reducible apply ed_orV) <;> (try (first | ((with_reducible show _ = true → _); intro _) | ((with_reducible show _ = false → _); intro _))) <;> try walk_at "ev")
  | ((with_reducible apply ed_notV) <;> try walk_at "ev")
  | ((with_reducible apply ed_tupB) <;> try walk_at "ev")
  | ((with_reducible apply ea_cons) <;> try walk_at "ev")
  | ((with_reducible apply har_d) <;> try walk_at "ev")
  | ((with_reducible apply eb_test) <;> try walk_at "ev")
  | ((with_reducible apply eb_B) <;> try walk_at "ev")
  | ((with_reducible apply eb_andF); (walk_at "ev"); decide)
  | ((with_reducible apply eb_orT); (walk_at "ev"); decide)
  | ((with_reducible apply eb_and) <;> (try (first | ((with_reducible show _ = true → _); intro _) | ((with_reducible show _ = false → _); intro _))) <;> try walk_at "ev")
  | ((with_reducible apply eb_or) <;> (try (first | ((with_reducible show _ = true → _); intro _) | ((with_reducible show _ = false → _); intro _))) <;> try walk_at "ev")
  | ((with_reducible apply eb_not) <;> try walk_at "ev")
  | ((with_reducible apply ed_call) <;> try walk_at "ev"))
local macro_rules | `(tactic| walk_at "go") => `(tactic| first
  | ((with_reducible apply run_seq); walk_at "go")
  | ((with_reducible apply run_next); (try (with_reducible show Run _ _ _ _)); (try walk_at "go"))
  | ((with_reducible apply run_if); (all_goals (try walk_at "ev")); (all_goals (try (((with_reducible show _ = true → _)); intro h; first | exact absurd h (by decide) | (try walk_at "go")))); (all_goals (try (((with_reducible show _ = false → _)); intro h; first | exact absurd h (by decide) | (try walk_at "go")))))
  | ((with_reducible apply run_asg); (all_goals (try walk_at "ev")); (all_goals (try (with_reducible show Run _ _ _ _))); (all_goals (try walk_at "go")))
  | ((with_reducible apply run_asgT2); (all_goals (try walk_at "ev")); (all_goals (try (with_reducible show Run _ _ _ _))); (all_goals (try walk_at "go")))
  | ((with_reducible apply run_ret); (all_goals (try walk_at "ev"))))
variable {P : Program} {w : World} {K : Fg} {mg : Str → Option Value} {base : Heap} {aN aO : Addr} {tR : Tok}
theorem rw_inj {o u : Rw} (h : o.enc = u.enc) : o = u := by
  have h1 := rw_eqv o u
  rw [← h, rw_eqv] at h1
  have h2 : decide (o = u) = true := by rw [← h1]; simp
  exact of_decide_eq_true h2
/-- a change of rows, as data -/
noncomputable def onD (f : Rw → Rw) (d : PyData) : PyData := by
  classical
  exact if h : ∃ o, d = Rw.enc o then (f h.choose).enc else d
theorem onD_enc (f : Rw → Rw) (o : Rw) : onD f o.enc = (f o).enc := by
  unfold onD
  have h : ∃ u, o.enc = Rw.enc u := ⟨o, rfl⟩
  rw [dif_pos h]
  congr 2
  exact (rw_inj h.choose_spec).symm
theorem onD_map (f : Rw → Rw) (l : List Rw) : (l.map Rw.enc).map (onD f) = (l.map f).map Rw.enc := by
  rw [List.map_map, List.map_map]
  exact List.map_congr_left fun o _ => onD_enc f o
theorem rep1 {α : Type} (x : α) : ∀ n : Nat, (List.replicate n [x]).flatten = List.replicate n x
  | 0 => rfl
  | n + 1 => by
    rw [List.replicate_succ, List.flatten_cons, rep1 x n]
    rfl
abbrev sLTwo : Stmt := top 34
theorem scLTwo : FnScope ["_law_script", "_law_head", "_law_taken", "_law_many", "_law_way", "_law_rows_here", "_law_size", "_law_others", "_law_at", "_law_fresh", "_law_one", "_law_other", "_law_row_here", "_law_j"] ["_law_script"] (defScope sLTwo) := ⟨rfl, rfl, rfl, by decide +kernel, rfl, by decide +kernel, by decide +kernel⟩
def FLTwo (es : List Ent) (r : Ent) : Prop := ∃ (ns : List Int), es = [.l (ns.map PyData.int)] ∧ r = .d (.tuple [(lTwo ns).1.enc, (lTwo ns).2.enc])
theorem dfLTwo (G : Gs K mg aN aO tR) (dLCell : Df P w K mg base "_law_cell_at" 1 ["_law_script", "_law_k"] (spF K FLCell)) (dLRow : Df P w K mg base "_law_row" 3 ["_law_cells", "_law_many", "_law_size"] (spF K FLRow))
    (dLDoubled : Df P w K mg base "_law_doubled" 2 ["_law_rows_here", "_law_cell"] (spF K FLDoubled)) (dLMirrored : Df P w K mg base "_law_mirrored" 1 ["_law_row_here"] (spF K FLMirrored)) (dLRows : Df P w K mg base "_law_rows" 4 ["_law_script", "_law_many", "_law_way"] (spF K FLRows))
    (D : ∃ f fd, mg "_law_two" = some (.ref f) ∧ FunP K "_law_two" sLTwo f fd) : Df P w K mg base "_law_two" 5 ["_law_script"] (spF K FLTwo) := by
  refine df_mk D scLTwo (fun _ _ _ _ _ _ us hl => match us, hl with | [_], _ => rfl) (fun es r h => ?_) fun f cdv A outer s H E hr es r hF => ⟨_, (pss_cons (ps_set (i := 1) scLTwo.nd rfl (Or.inl rfl) (pe_df dLCell (hr.mono (by decide)) rfl (pa_cons (pv 0) (pa_cons pe_int pa_nil))))
    (pss_cons (ps_set (i := 2) scLTwo.nd rfl (Or.inl rfl) (pe_op op_mod (pv 1) pe_int))
    (pss_cons (ps_set (i := 3) scLTwo.nd rfl (Or.inl rfl) (pe_op op_add (pv 2) (pe_op op_mod (pe_op op_fdiv (pv 1) pe_int) (pe_op op_sub pe_int (pv 2)))))
    (pss_cons (ps_set (i := 4) scLTwo.nd rfl (Or.inl rfl) (pe_op op_mod (pe_df dLCell (hr.mono (by decide)) rfl (pa_cons (pv 0) (pa_cons pe_int pa_nil))) pe_int))
    (pss_cons (ps_set (i := 5) scLTwo.nd rfl (Or.inl rfl) (pe_df dLRows (hr.mono (by decide)) rfl (pa_cons (pv 0) (pa_cons (pv 3) (pa_cons (pv 4) pa_nil)))))
    (pss_cons (ps_set (i := 6) scLTwo.nd rfl (Or.inl rfl) (pe_callB call_len1 (by rfl) G.len PySem.boot_len (pa_cons (pv 5) pa_nil)))
    (pss_cons (ps_set (i := 7) scLTwo.nd rfl (Or.inl rfl) (pe_callTy call_list1 (by rfl) G.list (by decide +kernel) (pa_cons (pv 5) pa_nil)))
    (pss_cons (ps_if (PW.pt (pw_or (pt_cmpR op_eq (pv 4) pe_int (nomark _)) (pw_or1 (pt_cmpR op_eq (pv 4) pe_int (nomark _)))))
      (pss_one (ps_setLc (i := 7) (own := [("_law_row_here", 12)]) (tt := tYes) rfl scLTwo.nd rfl rfl (sw_true rfl rfl rfl (by decide +kernel)) (pi_list (pv 5)) (blkOk_by (own := [("_law_row_here", 12)]) (N := ["_law_script", "_law_head", "_law_taken", "_law_many", "_law_way", "_law_rows_here", "_law_size", "_law_others", "_law_at", "_law_fresh", "_law_one", "_law_other", "_law_row_here", "_law_j"]) (sc := defScope sLTwo) (by decide +kernel)) (fun _ _ _ _ _ => (pg_name (i := 12) scLTwo.nd rfl (Or.inl rfl) (.inr rfl))) (fun _ _ _ _ _ => pts_nil) (fun _ _ _ _ _ => (pe_df dLMirrored (hr.mono (by decide)) rfl (pa_cons (pv 12) pa_nil)))))
      pss_nil)
    (pss_cons (ps_if (PW.pt (pw_or (pt_cmpR op_eq (pv 4) pe_int (nomark _)) (pw_or1 (pt_cmpR op_eq (pv 4) pe_int (nomark _)))))
      (pss_one (ps_set (i := 7) scLTwo.nd rfl (Or.inl rfl) (pe_df dLDoubled (hr.mono (by decide)) rfl (pa_cons (pv 5) (pa_cons (pe_df dLCell (hr.mono (by decide)) rfl (pa_cons (pv 0) (pa_cons pe_int pa_nil))) pa_nil)))))
      pss_nil)
    (pss_cons (ps_if (pt_cmpR op_eq (pv 4) pe_int (nomark _))
      (pss_one (ps_set (i := 7) scLTwo.nd rfl (Or.inl rfl) (pe_revL (pv 5))))
      pss_nil)
    (pss_cons (ps_if (PW.pt (pw_and (pt_cmpR op_in_seq (pv 4) (pe_lst (pa_cons pe_int (pa_cons pe_int (pa_cons pe_int (pa_cons pe_int pa_nil))))) rfl) (pw_and1 (pt_cmpR op_gt (pv 6) pe_int (nomark _)))))
      (pss_cons (ps_set (i := 8) scLTwo.nd rfl (Or.inl rfl) (pe_op op_sub (pe_op op_sub (pe_callB call_len1 (by rfl) G.len PySem.boot_len (pa_cons (pv 7) pa_nil)) pe_int) (pe_op op_mod (pe_op op_fdiv (pe_df dLCell (hr.mono (by decide)) rfl (pa_cons (pv 0) (pa_cons pe_int pa_nil))) pe_int) (pv 6))))
    (pss_cons (ps_set (i := 9) scLTwo.nd rfl (Or.inl rfl) (pe_df dLRow (hr.mono (by decide)) rfl (pa_cons (pe_lc (own := [("_law_j", 13)]) (tt := tYes) rfl scLTwo.nd (pi_range1 rfl G.range (pa_cons pe_int pa_nil)) (blkOk_by (own := [("_law_j", 13)]) (N := ["_law_script", "_law_head", "_law_taken", "_law_many", "_law_way", "_law_rows_here", "_law_size", "_law_others", "_law_at", "_law_fresh", "_law_one", "_law_other", "_law_row_here", "_law_j"]) (sc := defScope sLTwo) (by decide +kernel)) (fun _ _ _ _ _ => (pg_name (i := 13) scLTwo.nd rfl (Or.inl rfl) (.inr rfl))) (fun _ _ _ _ _ => pts_nil) (fun _ _ _ _ _ => (pe_df dLCell (hr.mono (by decide)) rfl (pa_cons (pv 0) (pa_cons (pe_op op_add pe_int (pv 13)) pa_nil))))) (pa_cons (pv 3) (pa_cons (pv 6) pa_nil)))))
    (pss_cons (ps_if (PW.pt (pw_and (pt_cmpR op_eq (pe_ix ix_tup (pv 9) pe_int (fun _ _ => rfl)) pe_str (nomark _)) (pw_and1 (pt_cmpR op_eq (pe_ix ix_tup (pe_ix ix_list (pv 7) (pv 8) (fun _ _ => rfl)) pe_int (fun _ _ => rfl)) pe_str (nomark _)))))
      (pss_one (ps_set (i := 9) scLTwo.nd rfl (Or.inl rfl) (pe_op op_catA (pe_op op_catA (pe_slice sl_tupA (pv 9) po_none (po_some pe_int)) (pe_slice sl_tupA (pe_ix ix_list (pv 7) (pv 8) (fun _ _ => rfl)) (po_some pe_int) (po_some pe_int))) (pe_slice sl_tupA (pv 9) (po_some pe_int) po_none))))
      pss_nil)
    (pss_one (ps_asg (pv 9) (pg_sub (pv 7) (pv 8) set_list))))))
      pss_nil)
    (pss_cons (ps_set (i := 10) scLTwo.nd rfl (Or.inl rfl) (pe_tup (pa_cons (pe_op op_repA (pe_tup (pa_cons (pe_tup (pa_cons pe_int (pa_cons pe_int pa_nil))) pa_nil)) (pv 2)) (pa_cons (pv 3) (pa_cons (pe_callTy call_tup1 (by rfl) G.tuple (by decide +kernel) (pa_cons (pv 5) pa_nil)) pa_nil)))))
    (pss_cons (ps_set (i := 11) scLTwo.nd rfl (Or.inl rfl) (pe_tup (pa_cons (pe_op op_repA (pe_tup (pa_cons (pe_tup (pa_cons (pe_un un_neg pe_int) (pa_cons pe_int pa_nil))) pa_nil)) (pv 2)) (pa_cons (pv 3) (pa_cons (pe_callTy call_tup1 (by rfl) G.tuple (by decide +kernel) (pa_cons (pv 7) pa_nil)) pa_nil)))))
    (pss_cons (ps_if (pt_cmpR op_eq (pe_op op_mod (pe_op op_fdiv (pe_df dLCell (hr.mono (by decide)) rfl (pa_cons (pv 0) (pa_cons pe_int pa_nil))) pe_int) pe_int) pe_int (nomark _))
      (pss_one (ps_ret (pe_tup (pa_cons (pv 11) (pa_cons (pv 10) pa_nil)))))
      pss_nil)
    (pss_one (ps_ret (pe_tup (pa_cons (pv 10) (pa_cons (pv 11) pa_nil))))))))))))))))))), ?_⟩
  · obtain ⟨ns, rfl, _⟩ := h
    rfl
  obtain ⟨ns, rfl, rfl⟩ := hF
  dsimp only [cxOf, Cx.nox, Cx.wish]
  have ht3 := lTaken_le ns
  have hm5 := lMany_le ns
  have hw8 := lWay_lt ns
  have hl12 : (lRows ns (lMany ns) (lWay ns)).length ≤ 12 := by
    rw [lRows_len]
    exact lSize_le _ _
  have hO3 := lO3_le ns
  have hAt := lAt_lt ns
  have htk : cellAt ns 0 % 4 = (lTaken ns : Int) := (toNat_mod (by decide)).symm
  have hwy : cellAt ns 1 % 8 = (lWay ns : Int) := (toNat_mod (by decide)).symm
  have hmn : (lTaken ns : Int) + cellAt ns 0 / 4 % (6 - (lTaken ns : Int)) = (lMany ns : Int) := by
    unfold lMany
    rw [Int.natCast_add, toNat_mod (by omega)]
  have cell : ∀ (k : Nat) (δ : Env), k ≤ 1000 → δ[0]? = some (some (.l (ns.map PyData.int))) → EvD K (tCall (spF K FLCell) [] E0 (tCons (tVar 0) (tCons (tC (.int (k : Int))) tNil))) δ (.int (cellAt ns k)) := fun k δ hk h0 =>
    ed_call (es := [.l (ns.map PyData.int), .d (.int (k : Int))]) (har_l (er_l h0) (har_d ed_int har_nil)) ⟨ns, k, rfl, hk, rfl⟩
  refine run_seq (run_asg (x := .int (cellAt ns 0)) (cell 0 _ (by decide) rfl) ?_)
  refine run_seq (run_asg (x := .int (lTaken ns : Int)) (ed_is (ed_I (f := fun i j => i % j) (ed_var rfl) ed_int (by decide)) (by rw [htk])) ?_)
  refine run_seq (run_asg (x := .int (lMany ns : Int)) (ed_is (ed_I0 (f := fun i j => i + j) (ed_var rfl) (ed_I (f := fun i j => i % j) (ed_I (f := fun i j => i / j) (ed_var rfl) ed_int ⟨by decide, by decide⟩) (ed_I0 (f := fun i j => i - j) ed_int (ed_var rfl)) (by omega))) (by rw [hmn])) ?_)
  refine run_seq (run_asg (x := .int (lWay ns : Int)) (ed_is (ed_I (f := fun i j => i % j) (cell 1 _ (by decide) rfl) ed_int (by decide)) (by rw [hwy])) ?_)
  refine run_seq (run_asgN (ds := (lRows ns (lMany ns) (lWay ns)).map Rw.enc) (en_call (es := [.l (ns.map PyData.int), .d (.int (lMany ns : Int)), .d (.int (lWay ns : Int))]) (har_l (er_l rfl) (har_d (ed_var rfl) (har_d (ed_var rfl) har_nil))) ⟨ns, lMany ns, lWay ns, rfl, hm5.2, hw8, rfl⟩) ?_)
  have hrok := lRows_ok (ns := ns) (many := lMany ns) (way := lWay ns)
  have e1 : lO1 ns = if lWay ns = 1 ∨ lWay ns = 4 then (lRows ns (lMany ns) (lWay ns)).map lMirrored else lRows ns (lMany ns) (lWay ns) := rfl
  have e2 : lO2 ns = if lWay ns = 5 ∨ lWay ns = 6 then lDoubled (lRows ns (lMany ns) (lWay ns)) (cellAt ns 2) else lO1 ns := rfl
  have e3 : lO3 ns = if lWay ns = 7 then (lRows ns (lMany ns) (lWay ns)).reverse else lO2 ns := rfl
  have e4 := lOthers_eq ns
  have e5 : lFr ns = lRow (fun j => cellAt ns (2 + j)) (lMany ns) (lRows ns (lMany ns) (lWay ns)).length := rfl
  have e6 : lTwo ns = if cellAt ns 1 / 104 % 2 = 1 then (lOther ns, lOne ns) else (lOne ns, lOther ns) := rfl
  have e7 : lOne ns = ⟨lTaken ns, 0, 4, lMany ns, lRows ns (lMany ns) (lWay ns)⟩ := rfl
  have e8 : lOther ns = ⟨lTaken ns, -9, 9, lMany ns, lOthers ns⟩ := rfl
  have hge := lO3_ge ns
  generalize lRows ns (lMany ns) (lWay ns) = rows at hl12 hrok e1 e2 e3 e4 e5 e7 hAt hge ⊢
  generalize lWay ns = way at *
  generalize lMany ns = many at *
  generalize lTaken ns = taken at *
  generalize lO1 ns = o1 at *
  generalize lO2 ns = o2 at *
  generalize lO3 ns = o3 at *
  generalize lOthers ns = o4 at *
  generalize lAt ns = at' at *
  generalize lFr ns = fr at *
  let env : List PyData → Option Ent → Option Ent → Env := fun o x8 x9 => [some (.l (ns.map PyData.int)), some (.d (.int (cellAt ns 0))), some (.d (.int (taken : Int))), some (.d (.int (many : Int))), some (.d (.int (way : Int))), some (.o (rows.map Rw.enc)), some (.d (.int (rows.length : Int))), some (.o o), x8, x9, none, none, none, none]
  refine run_seq (run_asg (x := .int (rows.length : Int)) (ed_is (ed_lenL (er_o rfl)) (by rw [List.length_map])) ?_)
  refine run_seq (run_asgN (ds := rows.map Rw.enc) (en_list (er_o rfl)) ?_)
  show Run K _ (env (rows.map Rw.enc) none none) _
  refine run_cut (env (o1.map Rw.enc) none none) ?_ ?_
  · refine run_if (b := decide (way = 1 ∨ way = 4)) (eb_is (eb_or (a := decide (way = 1)) (b := decide (way = 4)) (eb_is (eb_test (ed_op (ed_var rfl) ed_int rv_eqI)) (by congr 1; apply propext; omega)) fun _ => eb_is (eb_test (ed_op (ed_var rfl) ed_int rv_eqI)) (by congr 1; apply propext; omega)) (by rw [Bool.decide_or])) (fun h => ?_) (fun h => ?_)
    · rw [if_pos (of_decide_eq_true h)] at e1
      rw [e1]
      refine run_asgN (ds := (rows.map Rw.enc).map (onD lMirrored)) (en_lcL (vs := [12]) (onD lMirrored) (tgw_name (by decide)) (er_o rfl) (by rw [List.length_map]; omega) fun x hx => ⟨trivial, ?_⟩) (by show _ = _; rw [onD_map]; rfl)
      rw [List.mem_map] at hx
      obtain ⟨o, _, rfl⟩ := hx
      exact ed_is (ed_call (es := [.d o.enc]) (har_d (ed_var rfl) har_nil) ⟨o, rfl, rfl⟩) (onD_enc _ _).symm
    · rw [if_neg (of_decide_eq_false h)] at e1
      rw [e1]
      exact run_next rfl
  refine run_cut (env (o2.map Rw.enc) none none) ?_ ?_
  · refine run_if (b := decide (way = 5 ∨ way = 6)) (eb_is (eb_or (a := decide (way = 5)) (b := decide (way = 6)) (eb_is (eb_test (ed_op (ed_var rfl) ed_int rv_eqI)) (by congr 1; apply propext; omega)) fun _ => eb_is (eb_test (ed_op (ed_var rfl) ed_int rv_eqI)) (by congr 1; apply propext; omega)) (by rw [Bool.decide_or])) (fun h => ?_) (fun h => ?_)
    · rw [if_pos (of_decide_eq_true h)] at e2
      rw [e2]
      exact run_asgN (ds := (lDoubled rows (cellAt ns 2)).map Rw.enc) (en_call (es := [.l (rows.map Rw.enc), .d (.int (cellAt ns 2))]) (har_l (er_o rfl) (har_d (cell 2 _ (by decide) rfl) har_nil)) ⟨rows, _, rfl, hl12, fun o ho => (hrok o ho).tok, rfl⟩) rfl
    · rw [if_neg (of_decide_eq_false h)] at e2
      rw [e2]
      exact run_next rfl
  refine run_cut (env (o3.map Rw.enc) none none) ?_ ?_
  · refine run_if (b := decide (way = 7)) (eb_is (eb_test (ed_op (ed_var rfl) ed_int rv_eqI)) (by congr 1; apply propext; omega)) (fun h => ?_) (fun h => ?_)
    · rw [if_pos (of_decide_eq_true h)] at e3
      rw [e3]
      exact run_asgN (ds := (rows.map Rw.enc).reverse) (en_rev (er_o rfl)) (by show _ = _; rw [List.map_reverse]; rfl)
    · rw [if_neg (of_decide_eq_false h)] at e3
      rw [e3]
      exact run_next rfl
  refine run_mid (fun d => ∃ x8 x9, d = env (o4.map Rw.enc) x8 x9) ?_ ?_
  · refine run_if (b := decide ((way = 2 ∨ way = 3 ∨ way = 4 ∨ way = 6) ∧ 0 < rows.length)) (eb_is (eb_and (a := decide (way = 2 ∨ way = 3 ∨ way = 4 ∨ way = 6)) (b := decide (0 < rows.length)) (eb_is (eb_test (ed_isL (x := .int (way : Int)) (ds := [.int 2, .int 3, .int 4, .int 6]) (ed_var rfl) (er_n (en_lstB (ea_cons ed_int (ea_cons ed_int (ea_cons ed_int (ea_cons ed_int ea_nil)))) rfl)) rfl rfl)) (in_2346 way hw8)) fun _ => eb_is (eb_test (ed_B0 (ed_var rfl) ed_int)) (by congr 1; apply propext; omega)) (by rw [Bool.decide_and])) (fun h => ?_) (fun h => ?_)
    · have h := of_decide_eq_true h
      rw [if_pos h] at e4
      have h0 := h.2
      obtain ⟨a1, a2⟩ := hAt h0
      refine run_seq (run_asg (x := .int (at' : Int)) (ed_is (ed_I0 (f := fun i j => i - j) (ed_I0 (f := fun i j => i - j) (ed_lenL (er_o rfl)) ed_int) (ed_I (f := fun i j => i % j) (ed_I (f := fun i j => i / j) (cell 1 _ (by decide) rfl) ed_int ⟨by decide, by decide⟩) (ed_var rfl) (by omega))) (by rw [List.length_map, a2])) ?_)
      refine run_seq (run_asg (x := fr.enc) (ed_call (es := [.l [.int (cellAt ns (2 + 0)), .int (cellAt ns (2 + 1)), .int (cellAt ns (2 + 2)), .int (cellAt ns (2 + 3))], .d (.int (many : Int)), .d (.int (rows.length : Int))])
        (har_l (er_n (en_lcR (n := 4) (vs := [13]) (fun j => PyData.int (cellAt ns (2 + j))) ed_int (by decide) (by decide) fun j hj => ed_call (es := [.l (ns.map PyData.int), .d (.int ((2 + j : Nat) : Int))]) (har_l (er_l rfl) (har_d (ed_is (x := .int (2 + (j : Int))) (by walk_at "ev") (by congr 1)) har_nil)) ⟨ns, _, rfl, by omega, rfl⟩)) (har_d (ed_var rfl) (har_d (ed_var rfl) har_nil))) ⟨fun j => cellAt ns (2 + j), many, rows.length, rfl, hm5.2, by omega, by rw [e5]⟩) ?_)
      have hix : atI (o3.map Rw.enc) (at' : Int) = some (o3.getD at' .skip).enc := atI_nat (at_map Rw.enc .skip a1)
      have hix2 : ixN (o3.map Rw.enc).length (at' : Int) = some at' := by
        rw [List.length_map]
        unfold ixN
        rw [if_pos (by omega), if_pos (by omega), Int.toNat_natCast]
      generalize o3.getD at' .skip = old at e4 hix
      refine run_cut (env (o3.map Rw.enc) (some (.d (.int (at' : Int)))) (some (.d (lFresh fr old).enc))) ?_ ?_
      · refine run_if (b := fr.isPut && old.isPut) (eb_and (eb_is (eb_test (ed_op (ed_ixT (ds := .str fr.tag :: fr.args) (ed_var rfl) atI_cons0) ed_str rv_eqS)) (tag_put fr)) fun _ => eb_is (eb_test (ed_op (ed_ixT (ds := .str old.tag :: old.args) (ed_ixL (er_o rfl) (ed_var rfl) hix) atI_cons0) ed_str rv_eqS)) (tag_put old)) (fun h => ?_) (fun h => ?_)
        · rw [Bool.and_eq_true] at h
          obtain ⟨x, y, s1, z, rfl⟩ := put_inv h.1
          obtain ⟨x', y', s1', z', rfl⟩ := put_inv h.2
          refine run_asg (x := (Rw.put x' y s1 z).enc) (ed_is (ed_catT (ed_catT (ed_slT (ds := [.str "put", .int (x : Int), y.enc, .str s1.str, z.enc]) (ed_var rfl) ep_none (ep_some ed_int)) (ed_slT (ds := [.str "put", .int (x' : Int), y'.enc, .str s1'.str, z'.enc]) (ed_ixL (er_o rfl) (ed_var rfl) hix) (ep_some ed_int) (ep_some ed_int)) (by show 1 + 1 ≤ 1000000; decide)) (ed_slT (ds := [.str "put", .int (x : Int), y.enc, .str s1.str, z.enc]) (ed_var rfl) (ep_some ed_int) ep_none) (by show 2 + 3 ≤ 1000000; decide)) rfl) rfl
        · have e : lFresh fr old = fr := by cases fr <;> cases old <;> first | rfl | cases h
          rw [e]
          exact run_next rfl
      · refine run_setL (i := 7) (n := (at' : Int)) rfl (ed_var rfl) (ed_var rfl) hix2 ⟨some (.d (.int (at' : Int))), some (.d (lFresh fr old).enc), ?_⟩
        rw [e4, List.map_set]
        rfl
    · rw [if_neg (of_decide_eq_false h)] at e4
      rw [e4]
      exact run_next ⟨none, none, rfl⟩
  intro d hd
  obtain ⟨x8, x9, rfl⟩ := hd
  refine run_seq (run_asg (x := (lOne ns).enc) (ed_is (ed_tupB (ea_cons (ed_repA (k := (taken : Int)) (ds := [.tuple [.int 0, .int 4]]) (ed_tupB (ea_cons (ed_tupB (ea_cons ed_int (ea_cons ed_int ea_nil)) rfl) ea_nil) rfl) (ed_var rfl) (fun z => by cases z) (by omega) (by omega) (by decide)) (ea_cons (ed_var rfl) (ea_cons (ed_tupOf (er_o rfl)) ea_nil))) rfl) (by rw [e7, rep1, Int.toNat_natCast]; rfl)) ?_)
  refine run_seq (run_asg (x := (lOther ns).enc) (ed_is (ed_tupB (ea_cons (ed_repA (k := (taken : Int)) (ds := [.tuple [.int (-9), .int 9]]) (ed_tupB (ea_cons (ed_tupB (ea_cons (ed_un ed_int) (ea_cons ed_int ea_nil)) rfl) ea_nil) rfl) (ed_var rfl) (fun z => by cases z) (by omega) (by omega) (by decide)) (ea_cons (ed_var rfl) (ea_cons (ed_tupOf (er_o rfl)) ea_nil))) rfl) (by rw [e8, rep1, Int.toNat_natCast]; rfl)) ?_)
  refine run_seq (run_if (b := decide (cellAt ns 1 / 104 % 2 = 1)) (eb_test (ed_op (ed_I (f := fun i j => i % j) (ed_I (f := fun i j => i / j) (cell 1 _ (by decide) rfl) ed_int ⟨by decide, by decide⟩) ed_int (by decide)) ed_int rv_eqI)) (fun h => ?_) (fun h => ?_))
  · rw [e6, if_pos (of_decide_eq_true h)]
    exact run_ret (ed_tupB (ea_cons (ed_var rfl) (ea_cons (ed_var rfl) ea_nil)) rfl) rfl
  · rw [e6, if_neg (of_decide_eq_false h)]
    apply run_next
    exact run_ret (ed_tupB (ea_cons (ed_var rfl) (ea_cons (ed_var rfl) ea_nil)) rfl) rfl
end Fkh
namespace Fkh
open PySem PySem.Spec PyProof.Rows L2 Evl
local macro_rules | `(tactic| walk_at "ev") => `(tactic| first
  | ((with_reducible apply ed_var); rfl)
  | with_reducible exact ed_int
  | with_reducible exact ed_str
  | with_reducible exact ed_non
  | with_reducible exact ed_bl
  | ((with_reducible apply ed_glob); assumption)
  | with_reducible exact ea_nil
  | with_reducible exact har_nil
  | with_reducible exact ep_none
  | ((with_reducible apply er_l); rfl)
  | ((with_reducible apply er_o); rfl)
  | with_reducible exact rv_eqI
  | with_reducible exact rv_eqS
  | with_reducible exact rv_neI
  | with_reducible exact rv_neS
  | with_reducible exact rv_eqB
  | with_reducible exact rv_isN
  | with_reducible exact rv_ltO
  | with_reducible exact rv_ltOpd
  | ((with_reducible show atI _ _ = some _); first | with_reducible exact atI_cons0 | rfl)
  | ((with_reducible show CMul _ _); first | exact .inl ⟨by omega, by omega⟩ | exact .inr ⟨by omega, by omega⟩)
  | ((with_reducible show (0 : Int) < _); first | decide | omega)
  | ((with_reducible show (0 : Int) ≤ _); omega)
  | ((with_reducible show CPow _ _); exact ⟨by omega, by omega, by decide⟩)
  | ((with_reducible show Nat.ble _ _ = true); rfl)
  | ((with_reducible show flat _ = true); rfl)
  | ((with_reducible show List.all _ _ = true); rfl)
  | ((with_reducible show CDiv _ _); exact ⟨by decide, by decide⟩)
  | ((with_reducible apply ed_ixT) <;> try walk_at "ev")
  | ((with_reducible apply ed_I0) <;> try walk_at "ev")
  | ((with_reducible apply ed_B0) <;> try walk_at "ev")
  | ((with_reducible apply ed_I) <;> try walk_at "ev")
  | ((with_reducible apply ed_ixV) <;> try walk_at "ev")
  | ((with_reducible apply ed_ixL) <;> try walk_at "ev")
  | ((with_reducible apply ed_eqD) <;> try walk_at "ev")
  | ((with_reducible apply ed_neD) <;> try walk_at "ev")
  | ((with_reducible apply ed_isT) <;> try walk_at "ev")
  | ((with_reducible apply ed_niT) <;> try walk_at "ev")
  | ((with_reducible apply ed_catT) <;> try walk_at "ev")
  | ((with_reducible apply ed_repA) <;> try walk_at "ev")
  | ((with_reducible apply ed_op) <;> try walk_at "ev")
  | ((with_reducible apply ed_un) <;> try walk_at "ev")
  | ((with_reducible apply ed_slT) <;> try walk_at "ev")
  | ((with_reducible apply ep_some) <;> try walk_at "ev")
  | ((with_reducible apply ed_lenT) <;> try walk_at "ev")
  | ((with_reducible apply ed_lenL) <;> try walk_at "ev")
  | ((with_reducible apply ed_tupOf) <;> try walk_at "ev")
  | ((with_reducible apply ed_divN) <;> try walk_at "ev")
  | ((with_reducible apply ed_andF); (walk_at "ev"); decide)
  | ((with_reducible apply ed_orT); (walk_at "ev"); decide)
  | ((with_reducible apply ed_andV) <;> (try (first | ((with_reducible show _ = true → _); intro _) | ((with_reducible show _ = false → _); intro _))) <;> try walk_at "ev")
  | ((with_reducible apply ed_orV) <;> (try (first | ((with_reducible show _ = true → _); intro _) | ((with_reducible show _ = false → _); intro _))) <;> try walk_at "ev")
  | ((with_reducible apply ed_notV) <;> try walk_at "ev")
  | ((with_reducible apply ed_tupB) <;> try walk_at "ev")
  | ((with_reducible apply ea_cons) <;> try walk_at "ev")
  | ((with_reducible apply har_d) <;> try walk_at "ev")
  | ((with_reducible apply eb_test) <;> try walk_at "ev")
  | ((with_reducible apply eb_B) <;> try walk_at "ev")
  | ((with_reducible apply eb_andF); (walk_at "ev"); decide)
  | ((with_reducible apply eb_orT); (walk_at "ev"); decide)
  | ((with_reducible apply eb_and) <;> (try (first | ((with_reducible show _ = true → _); intro _) | ((with_reducible show _ = false → _); intro _))) <;> try walk_at "ev")
  | ((with_reducible apply eb_or) <;> (try (first | ((with_reducible show _ = true → _); intro _) | ((with_reducible show _ = false → _); intro _))) <;> try walk_at "ev")
  | ((with_reducible apply eb_not) <;> try walk_at "ev")
  | ((with_reducible apply ed_call) <;> try walk_at "ev"))
local macro_rules | `(tactic| walk_at "go") => `(tactic| first
  | ((with_reducible apply run_seq); walk_at "go")
  | ((with_reducible apply run_next); (try (with_reducible show Run _ _ _ _)); (try walk_at "go"))
  | ((with_reducible apply run_if); (all_goals (try walk_at "ev")); (all_goals (try (((with_reducible show _ = true → _)); intro h; first | exact absurd h (by decide) | (try walk_at "go")))); (all_goals (try (((with_reducible show _ = false → _)); intro h; first | exact absurd h (by decide) | (try walk_at "go")))))
  | ((with_reducible apply run_asg); (all_goals (try walk_at "ev")); (all_goals (try (with_reducible show Run _ _ _ _))); (all_goals (try walk_at "go")))
  | ((with_reducible apply run_asgT2); (all_goals (try walk_at "ev")); (all_goals (try (with_reducible show Run _ _ _ _))); (all_goals (try walk_at "go")))
  | ((with_reducible apply run_ret); (all_goals (try walk_at "ev"))))
variable {P : Program} {w : World} {K : Fg} {mg : Str → Option Value} {base : Heap} {aN aO : Addr} {tR : Tok}
abbrev sLReckon : Stmt := top 35
theorem scLReckon : FnScope ["_law_one", "_law_sign", "_law_other", "_law_found"] ["_law_one", "_law_sign", "_law_other"] (defScope sLReckon) := ⟨rfl, rfl, rfl, by decide +kernel, rfl, by decide +kernel, by decide +kernel⟩
def FLReckon (es : List Ent) (r : Ent) : Prop := ∃ a s b, es = [.d (.int a), .d (.str (Sgn.str s)), .d (.int b)] ∧ Small a ∧ Small b ∧ r = .d (.int (lReckon a s b))
theorem dfLReckon (G : Gs K mg aN aO tR) (D : ∃ f fd, mg "_law_reckon" = some (.ref f) ∧ FunP K "_law_reckon" sLReckon f fd) : Df P w K mg base "_law_reckon" 1 ["_law_one", "_law_sign", "_law_other"] (spF K FLReckon) := by
  refine df_mk D scLReckon (fun _ _ _ _ _ _ us hl => match us, hl with | [_, _, _], _ => rfl) (fun es r h => ?_) fun f cdv A outer s H E hr es r hF => ⟨_, (pss_cons (ps_set (i := 3) scLReckon.nd rfl (Or.inl rfl) (pv 0))
    (pss_cons (ps_if (pt_cmpR op_eq (pv 1) pe_str (nomark _))
      (pss_one (ps_set (i := 3) scLReckon.nd rfl (Or.inl rfl) (pe_op op_add (pv 0) (pv 2))))
      pss_nil)
    (pss_cons (ps_if (pt_cmpR op_eq (pv 1) pe_str (nomark _))
      (pss_one (ps_set (i := 3) scLReckon.nd rfl (Or.inl rfl) (pe_op op_sub (pv 0) (pv 2))))
      pss_nil)
    (pss_cons (ps_if (pt_cmpR op_eq (pv 1) pe_str (nomark _))
      (pss_one (ps_set (i := 3) scLReckon.nd rfl (Or.inl rfl) (pe_op op_mul (pv 0) (pv 2))))
      pss_nil)
    (pss_cons (ps_if (pt_cmpR op_eq (pv 1) pe_str (nomark _))
      (pss_one (ps_set (i := 3) scLReckon.nd rfl (Or.inl rfl) pe_int))
      pss_nil)
    (pss_cons (ps_if (PW.pt (pw_and (pt_cmpR op_ne (pv 2) pe_int (nomark _)) (pw_and1 (pt_cmpR op_eq (pv 1) pe_str (nomark _)))))
      (pss_one (ps_set (i := 3) scLReckon.nd rfl (Or.inl rfl) (pe_op op_fdivN (pv 0) (pv 2))))
      pss_nil)
    (pss_cons (ps_if (PW.pt (pw_and (pt_cmpR op_ne (pv 2) pe_int (nomark _)) (pw_and1 (pt_cmpR op_eq (pv 1) pe_str (nomark _)))))
      (pss_one (ps_set (i := 3) scLReckon.nd rfl (Or.inl rfl) (pe_op op_modN (pv 0) (pv 2))))
      pss_nil)
    (pss_one (ps_ret (pe_op op_sub (pe_op op_mod (pe_op op_add (pv 3) pe_int) pe_int) pe_int)))))))))), ?_⟩
  · obtain ⟨a, s, b, rfl, _⟩ := h
    rfl
  obtain ⟨a, sg, b, rfl, ha, hb, rfl⟩ := hF
  try dsimp only [cxOf, Cx.nox, Cx.wish]
  have hm : CMul a b := .inl ⟨by
    obtain ⟨h1, h2⟩ := ha
    omega, by
    obtain ⟨h1, h2⟩ := ha
    omega⟩
  have hc : b ≠ 0 → CDivN a b := fun h => ⟨h, by
    obtain ⟨h1, h2⟩ := hb
    omega⟩
  let env : Int → Env := fun f => [some (.d (.int a)), some (.d (.str sg.str)), some (.d (.int b)), some (.d (.int f))]
  have sgIf : ∀ (f f' : Int) (s' : Sgn) (q : Str) (te : TE) (Pn : Post), Sgn.str s' = q → (sg = s' → EvD K te (env f) (.int f')) → Pn.nx (env (if sg = s' then f' else f)) →
      Run K (tIfS (tTest (tOp rEq (tVar 1) (tC (.str q)))) (tAsg te (gName 3)) tNext) (env f) Pn := fun f f' s' q te Pn hq h hP => by
    subst hq
    refine run_if (b := decide (sg = s')) (eb_is (eb_test (ed_op (ed_var rfl) ed_str rv_eqS)) (by cases sg <;> cases s' <;> decide +kernel)) (fun e => ?_) (fun e => ?_)
    · rw [if_pos (of_decide_eq_true e)] at hP
      exact run_asg (h (of_decide_eq_true e)) hP
    · rw [if_neg (of_decide_eq_false e)] at hP
      exact run_next hP
  have sgIf2 : ∀ (f f' : Int) (s' : Sgn) (q : Str) (te : TE) (Pn : Post), Sgn.str s' = q → (b ≠ 0 → sg = s' → EvD K te (env f) (.int f')) → Pn.nx (env (if b ≠ 0 ∧ sg = s' then f' else f)) →
      Run K (tIfS (tAnd (tTest (tOp rNe (tVar 2) (tC (.int 0)))) (tTest (tOp rEq (tVar 1) (tC (.str q))))) (tAsg te (gName 3)) tNext) (env f) Pn := fun f f' s' q te Pn hq h hP => by
    subst hq
    refine run_if (b := decide (b ≠ 0 ∧ sg = s')) (eb_is (eb_and (eb_test (ed_op (ed_var rfl) ed_int rv_neI)) fun _ => eb_is (b := decide (sg = s')) (eb_test (ed_op (ed_var rfl) ed_str rv_eqS)) (by cases sg <;> cases s' <;> decide +kernel)) (by rw [Bool.decide_and, decide_not])) (fun e => ?_) (fun e => ?_)
    · have e' := of_decide_eq_true e
      rw [if_pos e'] at hP
      exact run_asg (h e'.1 e'.2) hP
    · rw [if_neg (of_decide_eq_false e)] at hP
      exact run_next hP
  refine run_seq (run_asg (x := .int a) (ed_var rfl) ?_)
  show Run K _ (env a) _
  refine run_seq (sgIf a (a + b) .add "+" _ _ rfl (fun _ => ed_I0 (f := fun i j => i + j) (ed_var rfl) (ed_var rfl)) ?_)
  refine run_seq (sgIf _ (a - b) .sub "-" _ _ rfl (fun _ => ed_I0 (f := fun i j => i - j) (ed_var rfl) (ed_var rfl)) ?_)
  refine run_seq (sgIf _ (a * b) .mul "*" _ _ rfl (fun _ => ed_I (f := fun i j => i * j) (ed_var rfl) (ed_var rfl) hm) ?_)
  refine run_seq (sgIf _ 0 .div "/" _ _ rfl (fun _ => ed_int) ?_)
  refine run_seq (sgIf2 _ (a.fdiv b) .div "/" _ _ rfl (fun h _ => ed_I (f := fun i j => i.fdiv j) (ed_var rfl) (ed_var rfl) (hc h)) ?_)
  refine run_seq (sgIf2 _ (a.fmod b) .mod "mod" _ _ rfl (fun h _ => ed_I (f := fun i j => i.fmod j) (ed_var rfl) (ed_var rfl) h) ?_)
  refine run_ret (ed_is (ed_I0 (f := fun i j => i - j) (ed_I (f := fun i j => i % j) (ed_I0 (f := fun i j => i + j) (ed_var rfl) ed_int) ed_int (by decide)) ed_int) ?_) rfl
  show PyData.int (around _) = PyData.int (around (lFound a sg b))
  congr 2
  by_cases h0 : b = 0
  · cases sg <;> simp [lFound, h0]
  · cases sg <;> simp [lFound, h0]
abbrev sLSo : Stmt := top 36
theorem scLSo : FnScope ["_law_one", "_law_sign", "_law_other"] ["_law_one", "_law_sign", "_law_other"] (defScope sLSo) := ⟨rfl, rfl, rfl, by decide +kernel, rfl, by decide +kernel, by decide +kernel⟩
def FLSo (es : List Ent) (r : Ent) : Prop := ∃ a s b, es = [.d (.int a), .d (.str (Cmp.str s)), .d (.int b)] ∧ r = .d (.bool (isSo a s b))
theorem dfLSo (G : Gs K mg aN aO tR) (D : ∃ f fd, mg "_law_so" = some (.ref f) ∧ FunP K "_law_so" sLSo f fd) : Df P w K mg base "_law_so" 1 ["_law_one", "_law_sign", "_law_other"] (spF K FLSo) := by
  refine df_mk D scLSo (fun _ _ _ _ _ _ us hl => match us, hl with | [_, _, _], _ => rfl) (fun es r h => ?_) fun f cdv A outer s H E hr es r hF => ⟨_, (pss_cons (ps_if (PW.pt (pw_or (pt_cmpR op_eq (pv 1) pe_str (nomark _)) (pw_or1 (pt_cmpR op_eq (pv 1) pe_str (nomark _)))))
      (pss_one (ps_ret (pe_cmpR op_eq (pe_cmpR op_lt (pv 0) (pv 2) (nomark _)) (pe_cmpR op_eq (pv 1) pe_str (nomark _)) (nomark _))))
      pss_nil)
    (pss_cons (ps_if (PW.pt (pw_or (pt_cmpR op_eq (pv 1) pe_str (nomark _)) (pw_or1 (pt_cmpR op_eq (pv 1) pe_str (nomark _)))))
      (pss_one (ps_ret (pe_cmpR op_eq (pe_cmpR op_gt (pv 0) (pv 2) (nomark _)) (pe_cmpR op_eq (pv 1) pe_str (nomark _)) (nomark _))))
      pss_nil)
    (pss_one (ps_ret (pe_cmpR op_eq (pe_cmpR op_eq (pv 0) (pv 2) (nomark _)) (pe_cmpR op_eq (pv 1) pe_str (nomark _)) (nomark _)))))), ?_⟩
  · obtain ⟨a, s, b, rfl, _⟩ := h
    rfl
  obtain ⟨a, sg, b, rfl, rfl⟩ := hF
  try dsimp only [cxOf, Cx.nox, Cx.wish]
  have hs : ∀ (t : Cmp) (q : Str), Cmp.str t = q → EvD K (tOp rEq (tVar 1) (tC (.str q))) (env0 3 [.d (.int a), .d (.str sg.str), .d (.int b)]) (.bool (decide (sg = t))) := fun t q hq => by
    subst hq
    exact ed_is (ed_op (ed_var rfl) ed_str rv_eqS) (by congr 1; cases sg <;> cases t <;> decide +kernel)
  refine run_seq (run_if (b := decide (sg = .lt) || decide (sg = .ge)) (eb_or (eb_test (hs .lt _ rfl)) fun _ => eb_test (hs .ge _ rfl)) (fun h => ?_) (fun h => ?_))
  · refine run_ret (ed_op (ed_B0 (f := fun i j => decide (i < j)) (ed_var rfl) (ed_var rfl)) (hs .lt _ rfl) rv_eqB) ?_
    show Ent.d (.bool _) = Ent.d (.bool _)
    congr 2
    cases sg <;> first | (cases h; done) | (simp only [isSo]; by_cases h1 : a < b <;> simp [h1] <;> omega)
  apply run_next
  refine run_seq (run_if (b := decide (sg = .gt) || decide (sg = .le)) (eb_or (eb_test (hs .gt _ rfl)) fun _ => eb_test (hs .le _ rfl)) (fun h2 => ?_) (fun h2 => ?_))
  · refine run_ret (ed_op (ed_B0 (f := fun i j => decide (j < i)) (ed_var rfl) (ed_var rfl)) (hs .gt _ rfl) rv_eqB) ?_
    show Ent.d (.bool _) = Ent.d (.bool _)
    congr 2
    cases sg <;> first | (cases h2; done) | (simp only [isSo]; by_cases h1 : b < a <;> simp [h1] <;> omega)
  apply run_next
  refine run_ret (ed_op (ed_op (ed_var rfl) (ed_var rfl) rv_eqI) (hs .eq _ rfl) rv_eqB) ?_
  show Ent.d (.bool _) = Ent.d (.bool _)
  congr 2
  cases sg <;> first | (cases h; done) | (cases h2; done) | (simp only [isSo]; by_cases h1 : a = b <;> simp [h1])
abbrev sLWorth : Stmt := top 37
theorem scLWorth : FnScope ["_law_operand_here", "_law_values"] ["_law_operand_here", "_law_values"] (defScope sLWorth) := ⟨rfl, rfl, rfl, by decide +kernel, rfl, by decide +kernel, by decide +kernel⟩
def FLWorth (es : List Ent) (r : Ent) : Prop := ∃ (y : Opd) (vs : List Int), es = [.d y.enc, .d (encV vs)] ∧ y.Ok vs.length ∧ r = .d (.int (worth y vs))
theorem dfLWorth (G : Gs K mg aN aO tR) (D : ∃ f fd, mg "_law_worth" = some (.ref f) ∧ FunP K "_law_worth" sLWorth f fd) : Df P w K mg base "_law_worth" 1 ["_law_operand_here", "_law_values"] (spF K FLWorth) := by
  refine df_mk D scLWorth (fun _ _ _ _ _ _ us hl => match us, hl with | [_, _], _ => rfl) (fun es r h => ?_) fun f cdv A outer s H E hr es r hF => ⟨_, (pss_cons (ps_if (pt_cmpR op_eq (pe_ix ix_tup (pv 0) pe_int (fun _ _ => rfl)) pe_str (nomark _))
      (pss_one (ps_ret (pe_ix ix_tup (pv 0) pe_int (fun _ _ => rfl))))
      pss_nil)
    (pss_one (ps_ret (pe_ix ix_tup (pv 1) (pe_ix ix_tup (pv 0) pe_int (fun _ _ => rfl)) (fun _ _ => rfl))))), ?_⟩
  · obtain ⟨y, vs, rfl, _⟩ := h
    rfl
  obtain ⟨y, vs, rfl, hy, rfl⟩ := hF
  try dsimp only [cxOf, Cx.nox, Cx.wish]
  cases y with
  | num c =>
    dsimp only [Opd.enc, Opd.tag, Opd.val]
    refine run_seq (run_if (b := true) (eb_is (by walk_at "ev") (by decide)) (fun _ => ?_) (fun h => by cases h))
    exact run_ret (ed_ixT (ed_var rfl) rfl) rfl
  | name i =>
    dsimp only [Opd.enc, Opd.tag, Opd.val]
    refine run_seq (run_if (b := false) (eb_is (by walk_at "ev") (by decide)) (fun h => by cases h) (fun _ => ?_))
    apply run_next
    exact run_ret (ed_ixV (ds := vs.map PyData.int) (ed_var rfl) (ed_ixT (ed_var rfl) rfl) (atI_nat (at_int hy))) rfl
theorem cut_to {ds : List PyData} {x : Nat} (h : x ≤ ds.length) : cutD ds none (some (x : Int)) = ds.take x := by
  unfold cutD
  rw [HT.sIx_nat, Nat.min_eq_left h]
  show (ds.drop 0).take (x - 0) = _
  rw [List.drop_zero, Nat.sub_zero]
theorem cut_from {ds : List PyData} {x : Nat} (h : x ≤ ds.length) : cutD ds (some (x : Int)) none = ds.drop x := by
  unfold cutD
  rw [HT.sIx_nat, Nat.min_eq_left h]
  show (ds.drop x).take (ds.length - x) = _
  rw [List.take_of_length_le (by rw [List.length_drop]; exact Nat.le_refl _)]
theorem cut_last {ds : List PyData} {d : PyData} : cutD (ds ++ [d]) none (some (-1)) = ds := by
  have e1 : HT.sIx (ds ++ [d]).length (ds ++ [d]).length (some (-1)) = ds.length := by
    show (if (-1 : Int) < 0 then ((-1 : Int) + ((ds ++ [d]).length : Int)).toNat else min (-1 : Int).toNat (ds ++ [d]).length) = _
    rw [if_pos (by decide), List.length_append, List.length_singleton]
    omega
  unfold cutD
  rw [e1]
  show ((ds ++ [d]).drop 0).take (ds.length - 0) = _
  rw [List.drop_zero, Nat.sub_zero, List.take_left']
  rfl
theorem set_cut (vs : List Int) (x : Nat) (v : Int) (h : x < vs.length) : (vs.map PyData.int).take x ++ [.int v] ++ (vs.map PyData.int).drop (x + 1) = (vs.set x v).map PyData.int := by
  rw [List.map_set, List.set_eq_take_append_cons_drop, if_pos (by rw [List.length_map]; exact h), List.append_assoc]
  rfl
theorem small_around (n : Int) : Small (around n) := by
  unfold around
  exact ⟨by omega, by omega⟩
/-- a state that a program may be in -/
def Fit (p : Prog) (k : Nat) (vs : List Int) : Prop := k ≤ p.rows.length ∧ vs.length = p.many ∧ ∀ v ∈ vs, Small v
theorem worth_small {y : Opd} {vs : List Int} (hv : ∀ v ∈ vs, Small v) (hy : y.Ok vs.length) : Small (worth y vs) := by
  cases y with
  | num c => exact hy
  | name i =>
    show Small (vs.getD i 0)
    have hi : i < vs.length := hy
    rw [List.getD_eq_getElem?_getD, List.getElem?_eq_getElem hi]
    exact hv _ (List.getElem_mem hi)
theorem moved_fit {p : Prog} (hp : p.Ok) {k k' : Nat} {vs vs' : List Int} (h : Fit p k vs) (e : lMoved p k vs = .st k' vs') : Fit p k' vs' := by
  obtain ⟨h1, h2, h3⟩ := h
  unfold lMoved at e
  cases hr : p.rows[k]? with
  | none => rw [hr] at e; cases e
  | some o =>
    rw [hr] at e
    have hk : k < p.rows.length := (List.getElem?_eq_some_iff.mp hr).1
    have ho := hp.2.2.2 o (List.mem_of_getElem? hr)
    cases o with
    | put x y s z =>
      cases e
      refine ⟨hk, by rw [List.length_set, h2], fun v hv => ?_⟩
      rcases mem_set hv with rfl | hv
      · exact small_around _
      · exact h3 v hv
    | cond y s z t =>
      dsimp only at e
      split at e
      · cases e
        exact ⟨ho.2.2, h2, h3⟩
      · cases e
        exact ⟨hk, h2, h3⟩
    | go t =>
      cases e
      exact ⟨ho, h2, h3⟩
    | tell y => cases e
    | skip =>
      cases e
      exact ⟨hk, h2, h3⟩
abbrev sLMoved : Stmt := top 38
theorem scLMoved : FnScope ["_law_program", "_law_state", "_law_k", "_law_values", "_law_row_here", "_law_number", "_law_here", "_law_there"] ["_law_program", "_law_state"] (defScope sLMoved) := ⟨rfl, rfl, rfl, by decide +kernel, rfl, by decide +kernel, by decide +kernel⟩
def FLMoved (es : List Ent) (r : Ent) : Prop := ∃ (p : Prog) (k : Nat) (vs : List Int), es = [.d p.enc, .d (Tr.st k vs).enc] ∧ p.Ok ∧ Fit p k vs ∧ r = .d (lMoved p k vs).enc
theorem dfLMoved (G : Gs K mg aN aO tR) (dLSo : Df P w K mg base "_law_so" 1 ["_law_one", "_law_sign", "_law_other"] (spF K FLSo)) (dLWorth : Df P w K mg base "_law_worth" 1 ["_law_operand_here", "_law_values"] (spF K FLWorth)) (dLReckon : Df P w K mg base "_law_reckon" 1 ["_law_one", "_law_sign", "_law_other"] (spF K FLReckon))
    (D : ∃ f fd, mg "_law_moved" = some (.ref f) ∧ FunP K "_law_moved" sLMoved f fd) : Df P w K mg base "_law_moved" 2 ["_law_program", "_law_state"] (spF K FLMoved) := by
  refine df_mk D scLMoved (fun _ _ _ _ _ _ us hl => match us, hl with | [_, _], _ => rfl) (fun es r h => ?_) fun f cdv A outer s H E hr es r hF => ⟨_, (pss_cons (ps_asg (pv 1) (pg_tup rfl (pgs_cons (pg_name (i := 2) scLMoved.nd rfl (Or.inl rfl)) (pgs_cons (pg_name (i := 3) scLMoved.nd rfl (Or.inl rfl)) pgs_nil))))
    (pss_cons (ps_if (pt_cmpR op_eq (pv 2) (pe_callB call_len1 (by rfl) G.len PySem.boot_len (pa_cons (pe_ix ix_tup (pv 0) pe_int (fun _ _ => rfl)) pa_nil)) (nomark _))
      (pss_one (ps_ret (pe_tup (pa_cons pe_str pa_nil))))
      pss_nil)
    (pss_cons (ps_set (i := 4) scLMoved.nd rfl (Or.inl rfl) (pe_ix ix_tup (pe_ix ix_tup (pv 0) pe_int (fun _ _ => rfl)) (pv 2) (fun _ _ => rfl)))
    (pss_cons (ps_if (pt_cmpR op_eq (pe_ix ix_tup (pv 4) pe_int (fun _ _ => rfl)) pe_str (nomark _))
      (pss_one (ps_ret (pe_tup (pa_cons pe_str (pa_cons (pe_df dLWorth (hr.mono (by decide)) rfl (pa_cons (pe_ix ix_tup (pv 4) pe_int (fun _ _ => rfl)) (pa_cons (pv 3) pa_nil))) pa_nil)))))
      pss_nil)
    (pss_cons (ps_if (pt_cmpR op_eq (pe_ix ix_tup (pv 4) pe_int (fun _ _ => rfl)) pe_str (nomark _))
      (pss_cons (ps_set (i := 5) scLMoved.nd rfl (Or.inl rfl) (pe_df dLReckon (hr.mono (by decide)) rfl (pa_cons (pe_df dLWorth (hr.mono (by decide)) rfl (pa_cons (pe_ix ix_tup (pv 4) pe_int (fun _ _ => rfl)) (pa_cons (pv 3) pa_nil))) (pa_cons (pe_ix ix_tup (pv 4) pe_int (fun _ _ => rfl)) (pa_cons (pe_df dLWorth (hr.mono (by decide)) rfl (pa_cons (pe_ix ix_tup (pv 4) pe_int (fun _ _ => rfl)) (pa_cons (pv 3) pa_nil))) pa_nil)))))
    (pss_one (ps_ret (pe_tup (pa_cons (pe_op op_add (pv 2) pe_int) (pa_cons (pe_op op_catA (pe_op op_catA (pe_slice sl_tupA (pv 3) po_none (po_some (pe_ix ix_tup (pv 4) pe_int (fun _ _ => rfl)))) (pe_tup (pa_cons (pv 5) pa_nil))) (pe_slice sl_tupA (pv 3) (po_some (pe_op op_add (pe_ix ix_tup (pv 4) pe_int (fun _ _ => rfl)) pe_int)) po_none)) pa_nil))))))
      pss_nil)
    (pss_cons (ps_if (pt_cmpR op_eq (pe_ix ix_tup (pv 4) pe_int (fun _ _ => rfl)) pe_str (nomark _))
      (pss_one (ps_ret (pe_tup (pa_cons (pe_ix ix_tup (pv 4) pe_int (fun _ _ => rfl)) (pa_cons (pv 3) pa_nil)))))
      pss_nil)
    (pss_cons (ps_if (pt_cmpR op_eq (pe_ix ix_tup (pv 4) pe_int (fun _ _ => rfl)) pe_str (nomark _))
      (pss_cons (ps_set (i := 6) scLMoved.nd rfl (Or.inl rfl) (pe_df dLWorth (hr.mono (by decide)) rfl (pa_cons (pe_ix ix_tup (pv 4) pe_int (fun _ _ => rfl)) (pa_cons (pv 3) pa_nil))))
    (pss_cons (ps_set (i := 7) scLMoved.nd rfl (Or.inl rfl) (pe_df dLWorth (hr.mono (by decide)) rfl (pa_cons (pe_ix ix_tup (pv 4) pe_int (fun _ _ => rfl)) (pa_cons (pv 3) pa_nil))))
    (pss_one (ps_if (pt_val (pe_df dLSo (hr.mono (by decide)) rfl (pa_cons (pv 6) (pa_cons (pe_ix ix_tup (pv 4) pe_int (fun _ _ => rfl)) (pa_cons (pv 7) pa_nil)))))
      (pss_one (ps_ret (pe_tup (pa_cons (pe_ix ix_tup (pv 4) pe_int (fun _ _ => rfl)) (pa_cons (pv 3) pa_nil)))))
      pss_nil))))
      pss_nil)
    (pss_one (ps_ret (pe_tup (pa_cons (pe_op op_add (pv 2) pe_int) (pa_cons (pv 3) pa_nil)))))))))))), ?_⟩
  · obtain ⟨p, k, vs, rfl, _⟩ := h
    rfl
  obtain ⟨p, k, vs, rfl, hp, ⟨hk, hl, hv⟩, rfl⟩ := hF
  try dsimp only [cxOf, Cx.nox, Cx.wish]
  refine run_seq (run_asgT2 (x := .int (k : Int)) (y := encV vs) (ed_var rfl) rfl ?_)
  have hrows : ∀ (δ : Env), δ[0]? = some (some (.d p.enc)) → EvD K (tOp (rIxT K) (tVar 0) (tC (.int 2))) δ (.tuple (p.rows.map Rw.enc)) := fun δ h => ed_ixT (ds := [.tuple p.takes, .int (p.many : Int), .tuple (p.rows.map Rw.enc)]) (ed_var h) rfl
  refine run_seq (run_if (b := decide (k = p.rows.length)) (eb_is (eb_test (ed_op (ed_var rfl) (ed_lenT (hrows _ rfl)) rv_eqI)) (by rw [List.length_map]; congr 1; apply propext; omega)) (fun h => ?_) (fun h => ?_))
  · have h := of_decide_eq_true h
    refine run_ret (ed_tupB (ea_cons ed_str ea_nil) rfl) ?_
    show Ent.d _ = Ent.d _
    rw [lMoved, List.getElem?_eq_none (by omega)]
    rfl
  have h := of_decide_eq_false h
  have hk' : k < p.rows.length := by omega
  apply run_next
  obtain ⟨o, ho⟩ : ∃ o, p.rows[k]? = some o := ⟨_, List.getElem?_eq_getElem hk'⟩
  have hok := hp.2.2.2 o (List.mem_of_getElem? ho)
  rw [← hl] at hok
  refine run_seq (run_asg (x := o.enc) (ed_ixV (hrows _ rfl) (ed_var rfl) (atI_nat (by rw [List.getElem?_map, ho]; rfl))) ?_)
  show Run K _ [some (.d p.enc), some (.d (Tr.st k vs).enc), some (.d (.int (k : Int))), some (.d (encV vs)), some (.d o.enc), none, none, none] _
  unfold lMoved
  rw [ho]
  cases o with
  | tell y =>
    dsimp only [Rw.enc, Rw.tag, Rw.args]
    refine run_seq (run_if (b := true) (eb_is (by walk_at "ev") (by decide)) (fun _ => ?_) (fun h => by cases h))
    exact run_ret (ed_tupB (ea_cons ed_str (ea_cons (ed_call (es := [.d y.enc, .d (encV vs)]) (har_d (ed_ixT (ed_var rfl) rfl) (har_d (ed_var rfl) har_nil)) ⟨y, vs, rfl, hok, rfl⟩) ea_nil)) rfl) rfl
  | put x y s1 z =>
    dsimp only [Rw.enc, Rw.tag, Rw.args]
    have w1 := worth_small hv hok.2.1
    have w2 := worth_small hv hok.2.2
    refine run_seq (run_if (b := false) (eb_is (by walk_at "ev") (by decide)) (fun h => by cases h) (fun _ => ?_))
    apply run_next
    refine run_seq (run_if (b := true) (eb_is (by walk_at "ev") (by decide)) (fun _ => ?_) (fun h => by cases h))
    refine run_seq (run_asg (x := .int (lReckon (worth y vs) s1 (worth z vs))) (ed_call (es := [.d (.int (worth y vs)), .d (.str s1.str), .d (.int (worth z vs))]) (har_d (ed_call (es := [.d y.enc, .d (encV vs)]) (har_d (ed_ixT (ed_var rfl) rfl) (har_d (ed_var rfl) har_nil)) ⟨y, vs, rfl, hok.2.1, rfl⟩) (har_d (ed_ixT (ed_var rfl) rfl) (har_d (ed_call (es := [.d z.enc, .d (encV vs)]) (har_d (ed_ixT (ed_var rfl) rfl) (har_d (ed_var rfl) har_nil)) ⟨z, vs, rfl, hok.2.2, rfl⟩) har_nil))) ⟨_, _, _, rfl, w1, w2, rfl⟩) ?_)
    have hx : x < vs.length := hok.1
    have hm5 := hp.1
    refine run_ret (x := (Tr.st (k + 1) (vs.set x (lReckon (worth y vs) s1 (worth z vs)))).enc) (ed_is (ed_tupB (ea_cons (ed_I0 (f := fun i j => i + j) (ed_var rfl) ed_int) (ea_cons (ed_catT (ed_catT (ed_slT (ds := vs.map PyData.int) (ed_var rfl) ep_none (ep_some (ed_ixT (ed_var rfl) rfl))) (ed_tupB (ea_cons (ed_var rfl) ea_nil) rfl) ?_) (ed_slT (ds := vs.map PyData.int) (ed_var rfl) (ep_some (ed_is (x := .int ((x : Int) + 1)) (y := .int ((x + 1 : Nat) : Int)) (ed_I0 (f := fun i j => i + j) (ed_ixT (ed_var rfl) rfl) ed_int) rfl)) ep_none) ?_) ea_nil)) rfl) ?_) rfl
    · rw [cut_to (by rw [List.length_map]; omega), List.length_take, List.length_map]
      show min x vs.length + 1 ≤ _
      omega
    · rw [cut_to (by rw [List.length_map]; omega), cut_from (by rw [List.length_map]; omega), List.length_append, List.length_take, List.length_drop, List.length_map]
      show min x vs.length + 1 + (vs.length - (x + 1)) ≤ _
      omega
    · rw [cut_to (by rw [List.length_map]; omega), cut_from (by rw [List.length_map]; omega), set_cut vs x _ hx]
      rfl
  | go t =>
    dsimp only [Rw.enc, Rw.tag, Rw.args]
    refine run_seq (run_if (b := false) (eb_is (by walk_at "ev") (by decide)) (fun h => by cases h) (fun _ => ?_))
    apply run_next
    refine run_seq (run_if (b := false) (eb_is (by walk_at "ev") (by decide)) (fun h => by cases h) (fun _ => ?_))
    apply run_next
    refine run_seq (run_if (b := true) (eb_is (by walk_at "ev") (by decide)) (fun _ => ?_) (fun h => by cases h))
    exact run_ret (ed_tupB (ea_cons (ed_ixT (ed_var rfl) rfl) (ea_cons (ed_var rfl) ea_nil)) rfl) rfl
  | cond y s1 z t =>
    dsimp only [Rw.enc, Rw.tag, Rw.args]
    refine run_seq (run_if (b := false) (eb_is (by walk_at "ev") (by decide)) (fun h => by cases h) (fun _ => ?_))
    apply run_next
    refine run_seq (run_if (b := false) (eb_is (by walk_at "ev") (by decide)) (fun h => by cases h) (fun _ => ?_))
    apply run_next
    refine run_seq (run_if (b := false) (eb_is (by walk_at "ev") (by decide)) (fun h => by cases h) (fun _ => ?_))
    apply run_next
    refine run_mid (fun d => isSo (worth y vs) s1 (worth z vs) = false ∧ ∃ x6 x7, d = [some (.d p.enc), some (.d (Tr.st k vs).enc), some (.d (.int (k : Int))), some (.d (encV vs)), some (.d (Rw.cond y s1 z t).enc), none, x6, x7]) ?_ ?_
    · refine run_if (b := true) (eb_is (by walk_at "ev") (by decide)) (fun _ => ?_) (fun h => by cases h)
      refine run_seq (run_asg (x := .int (worth y vs)) (ed_call (es := [.d y.enc, .d (encV vs)]) (har_d (ed_ixT (ed_var rfl) rfl) (har_d (ed_var rfl) har_nil)) ⟨y, vs, rfl, hok.1, rfl⟩) ?_)
      refine run_seq (run_asg (x := .int (worth z vs)) (ed_call (es := [.d z.enc, .d (encV vs)]) (har_d (ed_ixT (ed_var rfl) rfl) (har_d (ed_var rfl) har_nil)) ⟨z, vs, rfl, hok.2.1, rfl⟩) ?_)
      refine run_if (b := isSo (worth y vs) s1 (worth z vs)) (eb_B (ed_call (es := [.d (.int (worth y vs)), .d (.str s1.str), .d (.int (worth z vs))]) (har_d (ed_var rfl) (har_d (ed_ixT (ed_var rfl) rfl) (har_d (ed_var rfl) har_nil))) ⟨_, _, _, rfl, rfl⟩)) (fun h => ?_) (fun h => ?_)
      · refine run_ret (ed_tupB (ea_cons (ed_ixT (ed_var rfl) rfl) (ea_cons (ed_var rfl) ea_nil)) rfl) ?_
        show Ent.d _ = Ent.d (Tr.enc (if isSo (worth y vs) s1 (worth z vs) = true then _ else _))
        rw [if_pos h]
        rfl
      · exact run_next ⟨h, _, _, rfl⟩
    · intro d hd
      obtain ⟨h, x6, x7, rfl⟩ := hd
      refine run_ret (ed_tupB (ea_cons (ed_I0 (f := fun i j => i + j) (ed_var rfl) ed_int) (ea_cons (ed_var rfl) ea_nil)) rfl) ?_
      show Ent.d _ = Ent.d (Tr.enc (if isSo (worth y vs) s1 (worth z vs) = true then _ else _))
      rw [if_neg (by rw [h]; decide)]
      rfl
  | skip =>
    dsimp only [Rw.enc, Rw.tag, Rw.args]
    refine run_seq (run_if (b := false) (eb_is (by walk_at "ev") (by decide)) (fun h => by cases h) (fun _ => ?_))
    apply run_next
    refine run_seq (run_if (b := false) (eb_is (by walk_at "ev") (by decide)) (fun h => by cases h) (fun _ => ?_))
    apply run_next
    refine run_seq (run_if (b := false) (eb_is (by walk_at "ev") (by decide)) (fun h => by cases h) (fun _ => ?_))
    apply run_next
    refine run_seq (run_if (b := false) (eb_is (by walk_at "ev") (by decide)) (fun h => by cases h) (fun _ => ?_))
    apply run_next
    refine run_ret (ed_tupB (ea_cons (ed_I0 (f := fun i j => i + j) (ed_var rfl) ed_int) (ea_cons (ed_var rfl) ea_nil)) rfl) rfl
end Fkh
namespace Fkh
open PySem PySem.Spec PyProof.Rows L2 Evl
local macro_rules | `(tactic| walk_at "ev") => `(tactic| first
  | ((with_reducible apply ed_var); rfl)
  | with_reducible exact ed_int
  | with_reducible exact ed_str
  | with_reducible exact ed_non
  | with_reducible exact ed_bl
  | ((with_reducible apply ed_glob); assumption)
  | with_reducible exact ea_nil
  | with_reducible exact har_nil
  | with_reducible exact ep_none
  | ((with_reducible apply er_l); rfl)
  | ((with_reducible apply er_o); rfl)
  | with_reducible exact rv_eqI
  | with_reducible exact rv_eqS
  | with_reducible exact rv_neI
  | with_reducible exact rv_neS
  | with_reducible exact rv_eqB
  | with_reducible exact rv_isN
  | with_reducible exact rv_ltO
  | with_reducible exact rv_ltOpd
  | ((with_reducible show atI _ _ = some _); first | with_reducible exact atI_cons0 | rfl)
  | ((with_reducible show CMul _ _); first | exact .inl ⟨by omega, by omega⟩ | exact .inr ⟨by omega, by omega⟩)
  | ((with_reducible show (0 : Int) < _); first | decide | omega)
  | ((with_reducible show (0 : Int) ≤ _); omega)
  | ((with_reducible show CPow _ _); exact ⟨by omega, by omega, by decide⟩)
  | ((with_reducible show Nat.ble _ _ = true); rfl)
  | ((with_reducible show flat _ = true); rfl)
  | ((with_reducible show List.all _ _ = true); rfl)
  | ((with_reducible show CDiv _ _); exact ⟨by decide, by decide⟩)
  | ((with_reducible apply ed_ixT) <;> try walk_at "ev")
  | ((with_reducible apply ed_I0) <;> try walk_at "ev")
  | ((with_reducible apply ed_B0) <;> try walk_at "ev")
  | ((with_reducible apply ed_I) <;> try walk_at "ev")
  | ((with_reducible apply ed_ixV) <;> try walk_at "ev")
  | ((with_reducible apply ed_ixL) <;> try walk_at "ev")
  | ((with_reducible apply ed_eqD) <;> try walk_at "ev")
  | ((with_reducible apply ed_neD) <;> try walk_at "ev")
  | ((with_reducible apply ed_isT) <;> try walk_at "ev")
  | ((with_reducible apply ed_niT) <;> try walk_at "ev")
  | ((with_reducible apply ed_catT) <;> try walk_at "ev")
  | ((with_reducible apply ed_repA) <;> try walk_at "ev")
  | ((with_reducible apply ed_op) <;> try walk_at "ev")
  | ((with_reducible apply ed_un) <;> try walk_at "ev")
  | ((with_reducible apply ed_slT) <;> try walk_at "ev")
  | ((with_reducible apply ep_some) <;> try walk_at "ev")
  | ((with_reducible apply ed_lenT) <;> try walk_at "ev")
  | ((with_reducible apply ed_lenL) <;> try walk_at "ev")
  | ((with_reducible apply ed_tupOf) <;> try walk_at "ev")
  | ((with_reducible apply ed_divN) <;> try walk_at "ev")
  | ((with_reducible apply ed_andF); (walk_at "ev"); decide)
  | ((with_reducible apply ed_orT); (walk_at "ev"); decide)
  | ((with_reducible apply ed_andV) <;> (try (first | ((with_reducible show _ = true → _); intro _) | ((with_reducible show _ = false → _); intro _))) <;> try walk_at "ev")
  | ((with_reducible apply ed_orV) <;> (try (first | ((with_reducible show _ = true → _); intro _) | ((with_reducible show _ = false → _); intro _))) <;> try walk_at "ev")
  | ((with_reducible apply ed_notV) <;> try walk_at "ev")
  | ((with_reducible apply ed_tupB) <;> try walk_at "ev")
  | ((with_reducible apply ea_cons) <;> try walk_at "ev")
  | ((with_reducible apply har_d) <;> try walk_at "ev")
  | ((with_reducible apply eb_test) <;> try walk_at "ev")
  | ((with_reducible apply eb_B) <;> try walk_at "ev")
  | ((with_reducible apply eb_andF); (walk_at "ev"); decide)
  | ((with_reducible apply eb_orT); (walk_at "ev"); decide)
  | ((with_reducible apply eb_and) <;> (try (first | ((with_reducible show _ = true → _); intro _) | ((with_reducible show _ = false → _); intro _))) <;> try walk_at "ev")
  | ((with_reducible apply eb_or) <;> (try (first | ((with_reducible show _ = true → _); intro _) | ((with_reducible show _ = false → _); intro _))) <;> try walk_at "ev")
  | ((with_reducible apply eb_not) <;> try walk_at "ev")
  | ((with_reducible apply ed_call) <;> try walk_at "ev"))
local macro_rules | `(tactic| walk_at "go") => `(tactic| first
  | ((with_reducible apply run_seq); walk_at "go")
  | ((with_reducible apply run_next); (try (with_reducible show Run _ _ _ _)); (try walk_at "go"))
  | ((with_reducible apply run_if); (all_goals (try walk_at "ev")); (all_goals (try (((with_reducible show _ = true → _)); intro h; first | exact absurd h (by decide) | (try walk_at "go")))); (all_goals (try (((with_reducible show _ = false → _)); intro h; first | exact absurd h (by decide) | (try walk_at "go")))))
  | ((with_reducible apply run_asg); (all_goals (try walk_at "ev")); (all_goals (try (with_reducible show Run _ _ _ _))); (all_goals (try walk_at "go")))
  | ((with_reducible apply run_asgT2); (all_goals (try walk_at "ev")); (all_goals (try (with_reducible show Run _ _ _ _))); (all_goals (try walk_at "go")))
  | ((with_reducible apply run_ret); (all_goals (try walk_at "ev"))))
variable {P : Program} {w : World} {K : Fg} {mg : Str → Option Value} {base : Heap} {aN aO : Addr} {tR : Tok}
def Tr.isSt : Tr → Bool
  | .st _ _ => true
  | _ => false
def Tr.first : Tr → PyData
  | .st k _ => .int (k : Int)
  | .none => .str "none"
  | .told _ => .str "told"
  | .late => .str "late"
def Tr.rest : Tr → List PyData
  | .st _ vs => [encV vs]
  | .told v => [.int v]
  | _ => []
theorem Tr.enc_eq (t : Tr) : t.enc = .tuple (t.first :: t.rest) := by cases t <;> rfl
theorem Tr.first_kind (t : Tr) : (∃ i, t.first = .int i) ∨ ∃ s, t.first = .str s := by
  cases t <;> first | exact .inl ⟨_, rfl⟩ | exact .inr ⟨_, rfl⟩
theorem Tr.first_isS (t : Tr) : isS t.first = !t.isSt := by cases t <;> rfl
theorem last_at {α : Type} (l : List α) (x : α) : (l ++ [x])[(l ++ [x]).length - 1]? = some x := by
  rw [List.length_append, List.length_singleton, Nat.add_sub_cancel, List.getElem?_append_right (Nat.le_refl _), Nat.sub_self]
  rfl
theorem last_map {α : Type} (f : α → PyData) (l : List α) (x : α) : atI ((l ++ [x]).map f) (-1) = some (f x) := by
  rw [List.map_append]
  exact atI_last (by simp) (last_at _ _)
theorem start_fit (p : Prog) (hp : p.Ok) (ins : List Int) (hi : ins.length = p.taken) (hs : ∀ v ∈ ins, Small v) : Fit p 0 (ins ++ List.replicate (p.many - ins.length) 0) := by
  have := hp.2.2.1
  refine ⟨Nat.zero_le _, by rw [List.length_append, List.length_replicate]; omega, fun v hv => ?_⟩
  rcases List.mem_append.mp hv with hv | hv
  · exact hs v hv
  · rw [List.eq_of_mem_replicate hv]
    exact ⟨by decide, by decide⟩
abbrev sLTrail : Stmt := top 39
theorem scLTrail : FnScope ["_law_program", "_law_inputs", "_law_limit", "_law_found", "_law_done"] ["_law_program", "_law_inputs", "_law_limit"] (defScope sLTrail) := ⟨rfl, rfl, rfl, by decide +kernel, rfl, by decide +kernel, by decide +kernel⟩
def FLTrail (es : List Ent) (r : Ent) : Prop := ∃ (p : Prog) (ins : List Int) (lim : Nat), es = [.d p.enc, .d (encV ins), .d (.int (lim : Int))] ∧ p.Ok ∧ ins.length = p.taken ∧ (∀ v ∈ ins, Small v) ∧ lim ≤ 200 ∧ r = .o ((lTrail p ins lim).map Tr.enc)
theorem dfLTrail (G : Gs K mg aN aO tR) (dLMoved : Df P w K mg base "_law_moved" 2 ["_law_program", "_law_state"] (spF K FLMoved)) (D : ∃ f fd, mg "_law_trail" = some (.ref f) ∧ FunP K "_law_trail" sLTrail f fd) : Df P w K mg base "_law_trail" 3 ["_law_program", "_law_inputs", "_law_limit"] (spF K FLTrail) := by
  refine df_mk D scLTrail (fun _ _ _ _ _ _ us hl => match us, hl with | [_, _, _], _ => rfl) (fun es r h => ?_) fun f cdv A outer s H E hr es r hF => ⟨_, (pss_cons (ps_set (i := 3) scLTrail.nd rfl (Or.inl rfl) (pe_lst (pa_cons (pe_tup (pa_cons pe_int (pa_cons (pe_op op_catA (pv 1) (pe_op op_repA (pe_tup (pa_cons pe_int pa_nil)) (pe_op op_sub (pe_ix ix_tup (pv 0) pe_int (fun _ _ => rfl)) (pe_callB call_len1 (by rfl) G.len PySem.boot_len (pa_cons (pv 1) pa_nil))))) pa_nil))) pa_nil)))
    (pss_cons (ps_for PassesOwn.never rfl (pi_range1 rfl G.range (pa_cons (pe_op op_add (pv 2) pe_int) pa_nil)) (pg_name (i := 4) scLTrail.nd rfl (Or.inl rfl))
      (pss_cons (ps_if (PW.pt (pw_and (pt_cmpR op_eq (pv 4) (pv 2) (nomark _)) (pw_and1 (pt_cmpR op_lt (pe_ix ix_tup (pe_ix ix_list (pv 3) (pe_un un_neg pe_int) (fun _ _ => rfl)) pe_int (fun _ _ => rfl)) (pe_callB call_len1 (by rfl) G.len PySem.boot_len (pa_cons (pe_ix ix_tup (pv 0) pe_int (fun _ _ => rfl)) pa_nil)) (nomark _)))))
      (pss_one (ps_ret (pe_op op_cat (pv 3) (pe_lst (pa_cons (pe_tup (pa_cons pe_str pa_nil)) pa_nil)))))
      pss_nil)
    (pss_cons (ps_expr (pe_bm PySem.F.plainAttrs_list PySem.F.slot_list_append PySem.F.type_list_append mt_append (pv 3) (pa_cons (pe_df dLMoved (hr.mono (by decide)) rfl (pa_cons (pv 0) (pa_cons (pe_ix ix_list (pv 3) (pe_un un_neg pe_int) (fun _ _ => rfl)) pa_nil))) pa_nil)))
    (pss_one (ps_if (pt_val (pe_callB call_isi (by rfl) G.isi (by decide +kernel) (pa_cons (pe_ix ix_tup (pe_ix ix_list (pv 3) (pe_un un_neg pe_int) (fun _ _ => rfl)) pe_int (fun _ _ => rfl)) (pa_cons (pe_bltn (v := .ty "str") (by rfl) G.str (by decide +kernel) rfl) pa_nil))))
      (pss_one (ps_ret (pv 3)))
      pss_nil)))))
    (pss_one (ps_ret (pv 3))))), ?_⟩
  · obtain ⟨p, ins, lim, rfl, _⟩ := h
    rfl
  obtain ⟨p, ins, lim, rfl, hp, hi, hs, hlim, rfl⟩ := hF
  try dsimp only [cxOf, Cx.nox, Cx.wish]
  have h3 : ins.length ≤ 5 := by
    have h1 := hp.2.2.1
    have h2 := hp.1
    omega
  have hm5 := hp.1
  have htm := hp.2.2.1
  have hpm : ∀ (δ : Env), δ[0]? = some (some (.d p.enc)) → EvD K (tOp (rIxT K) (tVar 0) (tC (.int 1))) δ (.int (p.many : Int)) := fun δ h => ed_ixT (ds := [.tuple p.takes, .int (p.many : Int), .tuple (p.rows.map Rw.enc)]) (ed_var h) rfl
  have hrows : ∀ (δ : Env), δ[0]? = some (some (.d p.enc)) → EvD K (tOp (rIxT K) (tVar 0) (tC (.int 2))) δ (.tuple (p.rows.map Rw.enc)) := fun δ h => ed_ixT (ds := [.tuple p.takes, .int (p.many : Int), .tuple (p.rows.map Rw.enc)]) (ed_var h) rfl
  have start : (ins.map PyData.int ++ (List.replicate ((p.many : Int) - ((ins.map PyData.int).length : Int)).toNat [PyData.int 0]).flatten) = (ins ++ List.replicate (p.many - ins.length) 0).map PyData.int := by
    rw [List.map_append, rep1, List.map_replicate, List.length_map]
    congr 2
    omega
  refine run_seq (run_asgN (ds := [(Tr.st 0 (ins ++ List.replicate (p.many - ins.length) 0)).enc]) (en_lstB (ea_cons (ed_is (ed_tupB (ea_cons ed_int (ea_cons (ed_catT (ds := ins.map PyData.int) (ed_var rfl) (ed_repA (k := (p.many : Int) - ((ins.map PyData.int).length : Int)) (ds := [.int 0]) (ed_tupB (ea_cons ed_int ea_nil) rfl) (ed_I0 (f := fun i j => i - j) (hpm _ rfl) (ed_lenT (ed_var rfl))) (fun z => by cases z) (by rw [List.length_map]; omega) (by omega) (by decide)) ?_) ea_nil)) rfl) (by rw [start]; rfl)) ea_nil) rfl) ?_)
  · rw [rep1, List.length_replicate, List.length_map]
    omega
  have fit0 := start_fit p hp ins hi hs
  have e0 : lTrail p ins lim = [] ++ [.st 0 (ins ++ List.replicate (p.many - ins.length) 0)] ++ lTrailFrom p lim 0 (ins ++ List.replicate (p.many - ins.length) 0) := rfl
  generalize lTrail p ins lim = tr at e0 ⊢
  generalize ins ++ List.replicate (p.many - ins.length) 0 = vs0 at fit0 e0 ⊢
  refine run_mid (fun _ => False) ?_ (fun d hd => hd.elim)
  refine run_forR (n := lim + 1) (fun i d => i ≤ lim ∧ ∃ pre k vs x4, d = [some (.d p.enc), some (.d (encV ins)), some (.d (.int (lim : Int))), some (.o ((pre ++ [Tr.st k vs]).map Tr.enc)), x4] ∧ tr = pre ++ [.st k vs] ++ lTrailFrom p (lim - i) k vs ∧ Fit p k vs ∧ pre.length = i) (ed_is (ed_I0 (f := fun i j => i + j) (ed_var rfl) ed_int) rfl) (by omega) ⟨Nat.zero_le _, [], 0, vs0, none, rfl, e0, fit0, rfl⟩ (fun i d hi hd => ?_) (fun d hd => by have := hd.1; omega)
  obtain ⟨hil, pre, k, vs, x4, rfl, et, hfit, hpl⟩ := hd
  show Run K _ [some (.d p.enc), some (.d (encV ins)), some (.d (.int (lim : Int))), some (.o ((pre ++ [Tr.st k vs]).map Tr.enc)), some (.d (.int (i : Int)))] _
  have hlast : atI ((pre ++ [Tr.st k vs]).map Tr.enc) (-1) = some (Tr.st k vs).enc := last_map _ _ _
  have hlen : ((pre ++ [Tr.st k vs]).map Tr.enc).length ≤ 300 := by
    rw [List.length_map, List.length_append, List.length_singleton]
    omega
  refine run_seq (run_if (b := decide (i = lim) && decide (k < p.rows.length)) (eb_and (eb_is (eb_test (ed_op (ed_var rfl) (ed_var rfl) rv_eqI)) (by congr 1; apply propext; omega)) fun _ => eb_is (eb_test (ed_B0 (f := fun i j => decide (i < j)) (ed_ixT (ds := [.int (k : Int), encV vs]) (ed_ixL (er_o rfl) (ed_un ed_int) hlast) rfl) (ed_lenT (hrows _ rfl)))) (by rw [List.length_map]; congr 1; apply propext; omega)) (fun h => ?_) (fun h => ?_))
  · rw [Bool.and_eq_true] at h
    have h1 := of_decide_eq_true h.1
    have h2 := of_decide_eq_true h.2
    refine run_retN (ds := (pre ++ [Tr.st k vs]).map Tr.enc ++ [Tr.late.enc]) (en_catO rfl (en_lstB (ea_cons (ed_tupB (ea_cons ed_str ea_nil) rfl) ea_nil) rfl) ?_) ?_
    · show _ + 1 ≤ _
      omega
    · show Ent.o _ = Ent.o _
      rw [et, h1, Nat.sub_self, lTrailFrom, if_pos h2, List.map_append (l₁ := pre ++ [Tr.st k vs])]
      rfl
  · apply run_next
    have hnext : ∀ o, lMoved p k vs = o → (o.isSt = false → tr = pre ++ [.st k vs] ++ [o]) ∧ (o.isSt = true → i < lim ∧ ∃ k' vs', o = .st k' vs' ∧ tr = pre ++ [.st k vs] ++ [o] ++ lTrailFrom p (lim - (i + 1)) k' vs') := fun o ho => by
      by_cases hl : i = lim
      · have hkl : ¬ k < p.rows.length := by
          intro z
          rw [decide_eq_true hl, decide_eq_true z] at h
          cases h
        have hnone : lMoved p k vs = .none := by rw [lMoved, List.getElem?_eq_none (by omega)]
        rw [hnone] at ho
        subst ho
        refine ⟨fun _ => ?_, fun z => by cases z⟩
        rw [et, hl, Nat.sub_self, lTrailFrom, if_neg hkl, hnone]
      · have e2 : lim - i = (lim - (i + 1)) + 1 := by omega
        rw [e2, lTrailFrom, ho] at et
        cases o with
        | st k' vs' =>
          refine ⟨(fun z => by cases z), fun _ => ⟨by omega, k', vs', rfl, ?_⟩⟩
          rw [et, List.append_assoc, List.append_assoc, List.append_assoc]
          rfl
        | none => exact ⟨fun _ => et, fun z => by cases z⟩
        | told v => exact ⟨fun _ => et, fun z => by cases z⟩
        | late => exact ⟨fun _ => et, fun z => by cases z⟩
    have hmv := hnext _ rfl
    have hfit' : ∀ k' vs', lMoved p k vs = .st k' vs' → Fit p k' vs' := fun k' vs' e => moved_fit hp hfit e
    refine run_seq (run_app (i := 3) (x := (lMoved p k vs).enc) rfl (ed_call (es := [.d p.enc, .d (Tr.st k vs).enc]) (har_d (ed_var rfl) (har_d (ed_ixL (er_o rfl) (ed_un ed_int) hlast) har_nil)) ⟨p, k, vs, rfl, hp, hfit, rfl⟩) (by omega) ?_)
    generalize lMoved p k vs = o at hmv hfit'
    have e5 : (pre ++ [Tr.st k vs]).map Tr.enc ++ [o.enc] = ((pre ++ [Tr.st k vs]) ++ [o]).map Tr.enc := by
      rw [List.map_append (l₁ := pre ++ [Tr.st k vs])]
      rfl
    rw [e5]
    show Run K _ [some (.d p.enc), some (.d (encV ins)), some (.d (.int (lim : Int))), some (.o ((pre ++ [Tr.st k vs] ++ [o]).map Tr.enc)), some (.d (.int (i : Int)))] _
    have hlast2 : atI ((pre ++ [Tr.st k vs] ++ [o]).map Tr.enc) (-1) = some (.tuple (o.first :: o.rest)) := by
      rw [← Tr.enc_eq]
      exact last_map _ _ _
    refine run_if (b := !o.isSt) (eb_is (eb_B (ed_isS (x := o.first) (ed_ixT (ed_ixL (er_o rfl) (ed_un ed_int) hlast2) atI_cons0) (Tr.first_kind o))) (Tr.first_isS o)) (fun h => ?_) (fun h => ?_)
    · refine run_retO (i := 3) rfl ?_
      show Ent.o _ = Ent.o _
      rw [hmv.1 (by simpa using h)]
    · obtain ⟨h1, k', vs', rfl, h2⟩ := hmv.2 (by simpa using h)
      exact run_next ⟨h1, pre ++ [Tr.st k vs], k', vs', _, rfl, h2, hfit' _ _ rfl, by rw [List.length_append, List.length_singleton, hpl]⟩
end Fkh
namespace Fkh
open PySem PySem.Spec PyProof.Rows L2 Evl
local macro_rules | `(tactic| walk_at "ev") => `(tactic| first
  | ((with_reducible apply ed_var); rfl)
  | with_reducible exact ed_int
  | with_reducible exact ed_str
  | with_reducible exact ed_non
  | with_reducible exact ed_bl
  | ((with_reducible apply ed_glob); assumption)
  | with_reducible exact ea_nil
  | with_reducible exact har_nil
  | with_reducible exact ep_none
  | ((with_reducible apply er_l); rfl)
  | ((with_reducible apply er_o); rfl)
  | with_reducible exact rv_eqI
  | with_reducible exact rv_eqS
  | with_reducible exact rv_neI
  | with_reducible exact rv_neS
  | with_reducible exact rv_eqB
  | with_reducible exact rv_isN
  | with_reducible exact rv_ltO
  | with_reducible exact rv_ltOpd
  | ((with_reducible show atI _ _ = some _); first | with_reducible exact atI_cons0 | rfl)
  | ((with_reducible show CMul _ _); first | exact .inl ⟨by omega, by omega⟩ | exact .inr ⟨by omega, by omega⟩)
  | ((with_reducible show (0 : Int) < _); first | decide | omega)
  | ((with_reducible show (0 : Int) ≤ _); omega)
  | ((with_reducible show CPow _ _); exact ⟨by omega, by omega, by decide⟩)
  | ((with_reducible show Nat.ble _ _ = true); rfl)
  | ((with_reducible show flat _ = true); rfl)
  | ((with_reducible show List.all _ _ = true); rfl)
  | ((with_reducible show CDiv _ _); exact ⟨by decide, by decide⟩)
  | ((with_reducible apply ed_ixT) <;> try walk_at "ev")
  | ((with_reducible apply ed_I0) <;> try walk_at "ev")
  | ((with_reducible apply ed_B0) <;> try walk_at "ev")
  | ((with_reducible apply ed_I) <;> try walk_at "ev")
  | ((with_reducible apply ed_ixV) <;> try walk_at "ev")
  | ((with_reducible apply ed_ixL) <;> try walk_at "ev")
  | ((with_reducible apply ed_eqD) <;> try walk_at "ev")
  | ((with_reducible apply ed_neD) <;> try walk_at "ev")
  | ((with_reducible apply ed_isT) <;> try walk_at "ev")
  | ((with_reducible apply ed_niT) <;> try walk_at "ev")
  | ((with_reducible apply ed_catT) <;> try walk_at "ev")
  | ((with_reducible apply ed_repA) <;> try walk_at "ev")
  | ((with_reducible apply ed_op) <;> try walk_at "ev")
  | ((with_reducible apply ed_un) <;> try walk_at "ev")
  | ((with_reducible apply ed_slT) <;> try walk_at "ev")
  | ((with_reducible apply ep_some) <;> try walk_at "ev")
  | ((with_reducible apply ed_lenT) <;> try walk_at "ev")
  | ((with_reducible apply ed_lenL) <;> try walk_at "ev")
  | ((with_reducible apply ed_tupOf) <;> try walk_at "ev")
  | ((with_reducible apply ed_divN) <;> try walk_at "ev")
  | ((with_reducible apply ed_andF); (walk_at "ev"); decide)
  | ((with_reducible apply ed_orT); (walk_at "ev"); decide)
  | ((with_reducible apply ed_andV) <;> (try (first | ((with_reducible show _ = true → _); intro _) | ((with_reducible show _ = false → _); intro _))) <;> try walk_at "ev")
  | ((with_reducible apply ed_orV) <;> (try (first | ((with_reducible show _ = true → _); intro _) | ((with_reducible show _ = false → _); intro _))) <;> try walk_at "ev")
  | ((with_reducible apply ed_notV) <;> try walk_at "ev")
  | ((with_reducible apply ed_tupB) <;> try walk_at "ev")
  | ((with_reducible apply ea_cons) <;> try walk_at "ev")
  | ((with_reducible apply har_d) <;> try walk_at "ev")
  | ((with_reducible apply eb_test) <;> try walk_at "ev")
  | ((with_reducible apply eb_B) <;> try walk_at "ev")
  | ((with_reducible apply eb_andF); (walk_at "ev"); decide)
  | ((with_reducible apply eb_orT); (walk_at "ev"); decide)
  | ((with_reducible apply eb_and) <;> (try (first | ((with_reducible show _ = true → _); intro _) | ((with_reducible show _ = false → _); intro _))) <;> try walk_at "ev")
  | ((with_reducible apply eb_or) <;> (try (first | ((with_reducible show _ = true → _); intro _) | ((with_reducible show _ = false → _); intro _))) <;> try walk_at "ev")
  | ((with_reducible apply eb_not) <;> try walk_at "ev")
  | ((with_reducible apply ed_call) <;> try walk_at "ev"))
local macro_rules | `(tactic| walk_at "go") => `(tactic| first
  | ((with_reducible apply run_seq); walk_at "go")
  | ((with_reducible apply run_next); (try (with_reducible show Run _ _ _ _)); (try walk_at "go"))
  | ((with_reducible apply run_if); (all_goals (try walk_at "ev")); (all_goals (try (((with_reducible show _ = true → _)); intro h; first | exact absurd h (by decide) | (try walk_at "go")))); (all_goals (try (((with_reducible show _ = false → _)); intro h; first | exact absurd h (by decide) | (try walk_at "go")))))
  | ((with_reducible apply run_asg); (all_goals (try walk_at "ev")); (all_goals (try (with_reducible show Run _ _ _ _))); (all_goals (try walk_at "go")))
  | ((with_reducible apply run_asgT2); (all_goals (try walk_at "ev")); (all_goals (try (with_reducible show Run _ _ _ _))); (all_goals (try walk_at "go")))
  | ((with_reducible apply run_ret); (all_goals (try walk_at "ev"))))
variable {P : Program} {w : World} {K : Fg} {mg : Str → Option Value} {base : Heap} {aN aO : Addr} {tR : Tok}
abbrev sLAlike : Stmt := top 40
theorem scLAlike : FnScope ["_law_here", "_law_there", "_law_bits", "_law_i"] ["_law_here", "_law_there", "_law_bits"] (defScope sLAlike) := ⟨rfl, rfl, rfl, by decide +kernel, rfl, by decide +kernel, by decide +kernel⟩
def FLAlike (es : List Ent) (r : Ent) : Prop := ∃ (a b : List Int) (bits : Nat), es = [.d (encV a), .d (encV b), .d (.int (bits : Int))] ∧ a.length = b.length ∧ a.length ≤ 5 ∧ r = .d (.bool (lAlike a b bits))
theorem dfLAlike (G : Gs K mg aN aO tR) (D : ∃ f fd, mg "_law_alike" = some (.ref f) ∧ FunP K "_law_alike" sLAlike f fd) : Df P w K mg base "_law_alike" 1 ["_law_here", "_law_there", "_law_bits"] (spF K FLAlike) := by
  refine df_mk D scLAlike (fun _ _ _ _ _ _ us hl => match us, hl with | [_, _, _], _ => rfl) (fun es r h => ?_) fun f cdv A outer s H E hr es r hF => ⟨_, (pss_cons (ps_for PassesOwn.never rfl (pi_range1 rfl G.range (pa_cons (pe_callB call_len1 (by rfl) G.len PySem.boot_len (pa_cons (pv 0) pa_nil)) pa_nil)) (pg_name (i := 3) scLAlike.nd rfl (Or.inl rfl))
      (pss_one (ps_if (PW.pt (pw_and (pt_cmpR op_eq (pe_op op_mod (pe_op op_fdiv (pv 2) (pe_op op_shl pe_int (pv 3))) pe_int) pe_int (nomark _)) (pw_and1 (pt_cmpR op_ne (pe_ix ix_tup (pv 0) (pv 3) (fun _ _ => rfl)) (pe_ix ix_tup (pv 1) (pv 3) (fun _ _ => rfl)) (nomark _)))))
      (pss_one (ps_ret pe_bl))
      pss_nil)))
    (pss_one (ps_ret pe_bl))), ?_⟩
  · obtain ⟨a, b, bits, rfl, _⟩ := h
    rfl
  obtain ⟨a, b, bits, rfl, hab, ha, rfl⟩ := hF
  try dsimp only [cxOf, Cx.nox, Cx.wish]
  let t : Nat → Bool := fun i => !(bits.testBit i && !decide (a.getD i 0 = b.getD i 0))
  have et : lAlike a b bits = (List.range a.length).all t := rfl
  refine run_mid (fun d => (List.range a.length).all t = true) ?_ (fun d hd => ?_)
  · refine run_forR (n := a.length) (fun i d => (List.range i).all t = true ∧ ∃ x3, d = [some (.d (encV a)), some (.d (encV b)), some (.d (.int (bits : Int))), x3]) (ed_is (ed_lenT (ds := a.map PyData.int) (ed_var rfl)) (by rw [List.length_map])) (by omega) ⟨rfl, none, rfl⟩ (fun i d hi hd => ?_) (fun d hd => hd.1)
    obtain ⟨hall, x3, rfl⟩ := hd
    show Run K _ [some (.d (encV a)), some (.d (encV b)), some (.d (.int (bits : Int))), some (.d (.int (i : Int)))] _
    have hp : (1 : Int) * (2 : Int) ^ ((i : Int).toNat) = ((2 ^ i : Nat) : Int) := by
      rw [Int.toNat_natCast, Int.one_mul]
      simp
    have hpi : 2 ^ i ≤ 2 ^ 5 := Nat.pow_le_pow_right (by decide) (by omega)
    have hp0 : 0 < 2 ^ i := Nat.two_pow_pos i
    refine run_if (b := bits.testBit i && !decide (a.getD i 0 = b.getD i 0)) (eb_and (eb_is (eb_test (ed_op (ed_I (f := fun i j => i % j) (ed_I (f := fun i j => i / j) (ed_var rfl) (ed_is (ed_I (f := fun i j => i * 2 ^ j.toNat) ed_int (ed_var rfl) ⟨by omega, by omega, by decide⟩) (by rw [hp])) ⟨by omega, by omega⟩) ed_int (by decide)) ed_int rv_eqI)) ?_) fun _ => eb_test (ed_op (ed_ixV (ds := a.map PyData.int) (ed_var rfl) (ed_var rfl) (atI_nat (at_int hi))) (ed_ixV (ds := b.map PyData.int) (ed_var rfl) (ed_var rfl) (atI_nat (at_int (by omega)))) rv_neI)) (fun h => ?_) (fun h => ?_)
    · rw [Nat.testBit_eq_decide_div_mod_eq]
      congr 1
      apply propext
      show (bits : Int) / ((2 ^ i : Nat) : Int) % 2 = 1 ↔ _
      omega
    · refine run_ret ed_bl ?_
      show Ent.d (.bool _) = Ent.d (.bool _)
      have hf : (List.range a.length).all t = false := by
        rw [List.all_eq_false]
        exact ⟨i, List.mem_range.mpr hi, by show ¬ (!(bits.testBit i && !decide (a.getD i 0 = b.getD i 0))) = true; rw [h]; decide⟩
      rw [et, hf]
    · refine run_next ⟨?_, _, rfl⟩
      rw [List.range_succ, List.all_append, hall]
      show (true && ((!(bits.testBit i && !decide (a.getD i 0 = b.getD i 0))) && true)) = true
      rw [h]
      rfl
  · refine run_ret ed_bl ?_
    show Ent.d (.bool _) = Ent.d (.bool _)
    rw [et, hd]
def mkSt (s : Nat × List Int) : Tr := .st s.1 s.2
theorem n_none_told : Str.ofString "none" ≠ Str.ofString "told" := by decide +kernel
theorem n_none_late : Str.ofString "none" ≠ Str.ofString "late" := by decide +kernel
theorem n_told_late : Str.ofString "told" ≠ Str.ofString "late" := by decide +kernel
theorem tr_eqv {x y : Tr} (hx : x.isSt = false) (hy : y.isSt = false) : PyData.eqv x.enc y.enc = decide (x = y) := by
  have h1 := n_none_told
  have h2 := n_none_late
  have h3 := n_told_late
  have h4 := n_none_told.symm
  have h5 := n_none_late.symm
  have h6 := n_told_late.symm
  cases x <;> first | (cases hx; done) | skip
  all_goals cases y <;> first | (cases hy; done) | (simp [Tr.enc, PyData.eqv, PyData.eqvAll, h1, h2, h3, h4, h5, h6]; done) | skip
  all_goals
    rename_i a b
    simp only [Tr.enc, PyData.eqv, PyData.eqvAll, Bool.and_true]
    by_cases e : a = b
    · subst e
      simp
    · have : ¬ Tr.told a = Tr.told b := fun z => e (Tr.told.inj z)
      simp [e]
theorem tr_shaped {x : Tr} (hx : x.isSt = false) : SeqAt.shaped x.enc = true := by
  have h1 : PyData.strOk (Str.ofString "none") = true := by decide +kernel
  have h2 : PyData.strOk (Str.ofString "told") = true := by decide +kernel
  have h3 : PyData.strOk (Str.ofString "late") = true := by decide +kernel
  cases x <;> first | (cases hx; done) | simp [Tr.enc, SeqAt.shaped, PyData.canLay0, PyData.canLayAll0, PyData.depth, PyData.depthAll, h1, h2, h3]
theorem zip_at {α β : Type} {A : List α} {B : List β} {i : Nat} {a : α} {b : β} (h1 : A[i]? = some a) (h2 : B[i]? = some b) : (A.zip B)[i]? = some (a, b) := by
  rw [List.getElem?_zip_eq_some]
  exact ⟨h1, h2⟩
abbrev sLAlong : Stmt := top 41
theorem scLAlong : FnScope ["_law_agreed", "_law_here", "_law_there", "_law_mine", "_law_theirs", "_law_bits"] ["_law_agreed", "_law_here", "_law_there"] (defScope sLAlong) := ⟨rfl, rfl, rfl, by decide +kernel, rfl, by decide +kernel, by decide +kernel⟩
def FLAlong (es : List Ent) (r : Ent) : Prop := ∃ (kn : Kn) (a b : List (Nat × List Int)) (x y : Tr) (m : Nat), es = [.r (toKvs kn), .l ((a.map mkSt ++ [x]).map Tr.enc), .l ((b.map mkSt ++ [y]).map Tr.enc)] ∧ (∀ s ∈ a, s.2.length = m) ∧ (∀ s ∈ b, s.2.length = m) ∧ m ≤ 5 ∧ x.isSt = false ∧ y.isSt = false ∧ r = .d (.bool (lAlong (getN kn) (a.map mkSt ++ [x]) (b.map mkSt ++ [y])))
theorem dfLAlong (G : Gs K mg aN aO tR) (dLAlike : Df P w K mg base "_law_alike" 1 ["_law_here", "_law_there", "_law_bits"] (spF K FLAlike)) (D : ∃ f fd, mg "_law_along" = some (.ref f) ∧ FunP K "_law_along" sLAlong f fd) : Df P w K mg base "_law_along" 2 ["_law_agreed", "_law_here", "_law_there"] (spF K FLAlong) := by
  refine df_mk D scLAlong (fun _ _ _ _ _ _ us hl => match us, hl with | [_, _, _], _ => rfl) (fun es r h => ?_) fun f cdv A outer s H E hr es r hF => ⟨_, (pss_cons (ps_if (PW.pt (pw_or (pt_cmpR op_ne (pe_callB call_len1 (by rfl) G.len PySem.boot_len (pa_cons (pv 1) pa_nil)) (pe_callB call_len1 (by rfl) G.len PySem.boot_len (pa_cons (pv 2) pa_nil)) (nomark _)) (pw_or1 (pt_cmpR (op_neD hr.units) (pe_ix ix_list (pv 1) (pe_un un_neg pe_int) (fun _ _ => rfl)) (pe_ix ix_list (pv 2) (pe_un un_neg pe_int) (fun _ _ => rfl)) (nomark _)))))
      (pss_one (ps_ret pe_bl))
      pss_nil)
    (pss_cons (ps_for PassesOwn.never rfl (pi_zip (by rfl) G.zip (pa_cons (pe_slice sl_list (pv 1) po_none (po_some (pe_un un_neg pe_int))) (pa_cons (pe_slice sl_list (pv 2) po_none (po_some (pe_un un_neg pe_int))) pa_nil))) (pg_tup rfl (pgs_cons (pg_name (i := 3) scLAlong.nd rfl (Or.inl rfl)) (pgs_cons (pg_name (i := 4) scLAlong.nd rfl (Or.inl rfl)) pgs_nil)))
      (pss_cons (ps_set (i := 5) scLAlong.nd rfl (Or.inl rfl) (pe_dget1 (hu_of hr) (pv 0) (pe_tup (pa_cons (pe_ix ix_tup (pv 3) pe_int (fun _ _ => rfl)) (pa_cons (pe_ix ix_tup (pv 4) pe_int (fun _ _ => rfl)) pa_nil))) ⟨rfl, rfl, rfl, rfl⟩))
    (pss_one (ps_if (PW.pt (pw_or (pt_cmpR op_isN1 (pv 5) pe_non (nomark _)) (pw_or1 (pt_not (pt_val (pe_df dLAlike (hr.mono (by decide)) rfl (pa_cons (pe_ix ix_tup (pv 3) pe_int (fun _ _ => rfl)) (pa_cons (pe_ix ix_tup (pv 4) pe_int (fun _ _ => rfl)) (pa_cons (pv 5) pa_nil)))))))))
      (pss_one (ps_ret pe_bl))
      pss_nil))))
    (pss_one (ps_ret pe_bl)))), ?_⟩
  · obtain ⟨kn, a, b, x, y, m, rfl, _⟩ := h
    rfl
  obtain ⟨kn, a, b, x, y, m, rfl, ha, hb, hm, hx, hy, rfl⟩ := hF
  try dsimp only [cxOf, Cx.nox, Cx.wish]
  have l1 : (a.map mkSt ++ [x]).length = a.length + 1 := by rw [List.length_append, List.length_map, List.length_singleton]
  have l2 : (b.map mkSt ++ [y]).length = b.length + 1 := by rw [List.length_append, List.length_map, List.length_singleton]
  have el : lAlong (getN kn) (a.map mkSt ++ [x]) (b.map mkSt ++ [y]) = if a.length ≠ b.length ∨ x ≠ y then false else ((a.map mkSt).zip (b.map mkSt)).all fun p => alongAt (getN kn) p.1 p.2 := by
    unfold lAlong
    rw [l1, l2, List.getLast?_concat, List.getLast?_concat, List.dropLast_concat, List.dropLast_concat]
    congr 1
    apply propext
    constructor
    · rintro (h | h)
      · exact .inl (by omega)
      · exact .inr (fun z => h (by rw [z]))
    · rintro (h | h)
      · exact .inl (by omega)
      · exact .inr (fun z => h (Option.some.inj z))
  rw [el]
  refine run_seq (run_if (b := decide (a.length ≠ b.length ∨ x ≠ y)) (eb_is (eb_or (a := decide (a.length ≠ b.length)) (b := decide (x ≠ y)) (eb_is (eb_test (ed_op (ed_lenL (er_l rfl)) (ed_lenL (er_l rfl)) rv_neI)) (by rw [List.length_map, List.length_map, l1, l2, decide_not]; congr 2; apply propext; omega)) fun _ => eb_is (eb_test (ed_neD (ed_ixL (er_l rfl) (ed_un ed_int) (last_map _ _ _)) (ed_ixL (er_l rfl) (ed_un ed_int) (last_map _ _ _)) (tr_shaped hx) (tr_shaped hy))) (by rw [tr_eqv hx hy, decide_not])) (by rw [Bool.decide_or])) (fun h => ?_) (fun h => ?_))
  · rw [if_pos (of_decide_eq_true h)]
    exact run_ret ed_bl rfl
  have h := of_decide_eq_false h
  rw [if_neg h]
  apply run_next
  have hlen : a.length = b.length := by
    by_cases e : a.length = b.length
    · exact e
    · exact absurd (.inl e) h
  have c1 : cutD ((a.map mkSt ++ [x]).map Tr.enc) none (some (-1)) = (a.map mkSt).map Tr.enc := by
    rw [List.map_append]
    exact cut_last
  have c2 : cutD ((b.map mkSt ++ [y]).map Tr.enc) none (some (-1)) = (b.map mkSt).map Tr.enc := by
    rw [List.map_append]
    exact cut_last
  generalize hz : ((a.map mkSt).zip (b.map mkSt)) = z
  let f : Tr × Tr → Bool := fun p => alongAt (getN kn) p.1 p.2
  have s1 : EvN K (tSl (rSlL K) (tVar 1) tNoPart (tPart (tUn (rU fun i => .int (-i)) (tC (.int 1))))) (env0 6 [.r (toKvs kn), .l ((a.map mkSt ++ [x]).map Tr.enc), .l ((b.map mkSt ++ [y]).map Tr.enc)]) ((a.map mkSt).map Tr.enc) := c1 ▸ en_slL (er_l rfl) ep_none (ep_some (ed_un (f := fun i => -i) (i := 1) ed_int))
  have s2 : EvN K (tSl (rSlL K) (tVar 2) tNoPart (tPart (tUn (rU fun i => .int (-i)) (tC (.int 1))))) (env0 6 [.r (toKvs kn), .l ((a.map mkSt ++ [x]).map Tr.enc), .l ((b.map mkSt ++ [y]).map Tr.enc)]) ((b.map mkSt).map Tr.enc) := c2 ▸ en_slL (er_l rfl) ep_none (ep_some (ed_un (f := fun i => -i) (i := 1) ed_int))
  refine run_mid (fun d => z.all f = true) ?_ (fun d hd => ?_)
  · refine run_forZ (is := [3, 4]) rfl (fun i d => (z.take i).all f = true ∧ ∃ x3 x4 x5, d = [some (.r (toKvs kn)), some (.l ((a.map mkSt ++ [x]).map Tr.enc)), some (.l ((b.map mkSt ++ [y]).map Tr.enc)), x3, x4, x5]) s1 s2 (by rw [List.length_map, List.length_map, List.length_map, List.length_map, hlen]) ⟨rfl, none, none, none, rfl⟩ (fun i u v d hu hv hd => ?_) (fun d hd => ?_)
    · obtain ⟨hall, x3, x4, x5, rfl⟩ := hd
      rw [List.getElem?_map, List.getElem?_map] at hu hv
      cases ea : a[i]? with
      | none => rw [ea] at hu; cases hu
      | some s =>
        cases eb : b[i]? with
        | none => rw [eb] at hv; cases hv
        | some q =>
          rw [ea] at hu
          rw [eb] at hv
          cases hu
          cases hv
          have hs := ha s (List.mem_of_getElem? ea)
          have hq := hb q (List.mem_of_getElem? eb)
          have hzi : z[i]? = some (mkSt s, mkSt q) := by
            rw [← hz]
            exact zip_at (by rw [List.getElem?_map, ea]; rfl) (by rw [List.getElem?_map, eb]; rfl)
          show Run K _ [some (.r (toKvs kn)), some (.l ((a.map mkSt ++ [x]).map Tr.enc)), some (.l ((b.map mkSt ++ [y]).map Tr.enc)), some (.d (mkSt s).enc), some (.d (mkSt q).enc), x5] _
          refine run_seq (run_asg (x := optD (getK (toKvs kn) ((s.1 : Int), (q.1 : Int)))) (ed_get (ad := none) (.inl rfl) (ek_tup (ed_ixT (ds := [.int (s.1 : Int), encV s.2]) (ed_var rfl) rfl) (ed_ixT (ds := [.int (q.1 : Int), encV q.2]) (ed_var rfl) rfl))) ?_)
          have eg : getK (toKvs kn) ((s.1 : Int), (q.1 : Int)) = (getN kn (s.1, q.1)).map fun n : Nat => (n : Int) := getK_ck (s.1, q.1) kn
          rw [eg]
          have hfi : f (mkSt s, mkSt q) = match getN kn (s.1, q.1) with
            | none => false
            | some bits => lAlike s.2 q.2 bits := rfl
          have bad : f (mkSt s, mkSt q) = false → z.all f = false := fun e => by
            rw [List.all_eq_false]
            exact ⟨_, List.mem_of_getElem? hzi, by rw [e]; decide⟩
          have good : f (mkSt s, mkSt q) = true → (z.take (i + 1)).all f = true := fun e => by
            rw [List.take_add_one, hzi, List.all_append, hall]
            show (true && (f (mkSt s, mkSt q) && true)) = true
            rw [e]
            rfl
          cases hg : getN kn (s.1, q.1) with
          | none =>
            rw [hg] at hfi
            refine run_if (b := true) (eb_orT (eb_test (ed_op (ed_var rfl) ed_non (rv_isN (x := .none)))) rfl) (fun _ => ?_) (fun h => by cases h)
            refine run_ret ed_bl ?_
            show Ent.d (.bool _) = Ent.d (.bool _)
            rw [← bad hfi]
          | some bits =>
            rw [hg] at hfi
            refine run_if (b := !lAlike s.2 q.2 bits) (eb_is (eb_or (eb_is (b := false) (eb_test (ed_op (ed_var rfl) ed_non (rv_isN (x := .int (bits : Int))))) rfl) fun _ => eb_not (eb_B (ed_call (es := [.d (encV s.2), .d (encV q.2), .d (.int (bits : Int))]) (har_d (ed_ixT (ds := [.int (s.1 : Int), encV s.2]) (ed_var rfl) rfl) (har_d (ed_ixT (ds := [.int (q.1 : Int), encV q.2]) (ed_var rfl) rfl) (har_d (ed_var rfl) har_nil))) ⟨_, _, _, rfl, by rw [hs, hq], by rw [hs]; exact hm, rfl⟩))) (by rw [Bool.false_or])) (fun h => ?_) (fun h => ?_)
            · have h' : lAlike s.2 q.2 bits = false := by simpa using h
              refine run_ret ed_bl ?_
              show Ent.d (.bool _) = Ent.d (.bool _)
              rw [← bad (hfi.trans h')]
            · have h' : lAlike s.2 q.2 bits = true := by simpa using h
              exact run_next ⟨good (hfi.trans h'), _, _, _, rfl⟩
    · have h1 := hd.1
      rw [List.length_map, List.length_map, List.take_of_length_le (by rw [← hz, List.length_zip, List.length_map]; omega)] at h1
      exact h1
  · refine run_ret ed_bl ?_
    show Ent.d (.bool _) = Ent.d (.bool _)
    rw [← hd]
end Fkh
namespace Fkh
open PySem PySem.Spec PyProof.Rows L2 Evl
local macro_rules | `(tactic| walk_at "ev") => `(tactic| first
  | ((with_reducible apply ed_var); rfl)
  | with_reducible exact ed_int
  | with_reducible exact ed_str
  | with_reducible exact ed_non
  | with_reducible exact ed_bl
  | ((with_reducible apply ed_glob); assumption)
  | with_reducible exact ea_nil
  | with_reducible exact har_nil
  | with_reducible exact ep_none
  | ((with_reducible apply er_l); rfl)
  | ((with_reducible apply er_o); rfl)
  | with_reducible exact rv_eqI
  | with_reducible exact rv_eqS
  | with_reducible exact rv_neI
  | with_reducible exact rv_neS
  | with_reducible exact rv_eqB
  | with_reducible exact rv_isN
  | with_reducible exact rv_ltO
  | with_reducible exact rv_ltOpd
  | ((with_reducible show atI _ _ = some _); first | with_reducible exact atI_cons0 | rfl)
  | ((with_reducible show CMul _ _); first | exact .inl ⟨by omega, by omega⟩ | exact .inr ⟨by omega, by omega⟩)
  | ((with_reducible show (0 : Int) < _); first | decide | omega)
  | ((with_reducible show (0 : Int) ≤ _); omega)
  | ((with_reducible show CPow _ _); exact ⟨by omega, by omega, by decide⟩)
  | ((with_reducible show Nat.ble _ _ = true); rfl)
  | ((with_reducible show flat _ = true); rfl)
  | ((with_reducible show List.all _ _ = true); rfl)
  | ((with_reducible show CDiv _ _); exact ⟨by decide, by decide⟩)
  | ((with_reducible apply ed_ixT) <;> try walk_at "ev")
  | ((with_reducible apply ed_I0) <;> try walk_at "ev")
  | ((with_reducible apply ed_B0) <;> try walk_at "ev")
  | ((with_reducible apply ed_I) <;> try walk_at "ev")
  | ((with_reducible apply ed_ixV) <;> try walk_at "ev")
  | ((with_reducible apply ed_ixL) <;> try walk_at "ev")
  | ((with_reducible apply ed_eqD) <;> try walk_at "ev")
  | ((with_reducible apply ed_neD) <;> try walk_at "ev")
  | ((with_reducible apply ed_isT) <;> try walk_at "ev")
  | ((with_reducible apply ed_niT) <;> try walk_at "ev")
  | ((with_reducible apply ed_catT) <;> try walk_at "ev")
  | ((with_reducible apply ed_repA) <;> try walk_at "ev")
  | ((with_reducible apply ed_op) <;> try walk_at "ev")
  | ((with_reducible apply ed_un) <;> try walk_at "ev")
  | ((with_reducible apply ed_slT) <;> try walk_at "ev")
  | ((with_reducible apply ep_some) <;> try walk_at "ev")
  | ((with_reducible apply ed_lenT) <;> try walk_at "ev")
  | ((with_reducible apply ed_lenL) <;> try walk_at "ev")
  | ((with_reducible apply ed_tupOf) <;> try walk_at "ev")
  | ((with_reducible apply ed_divN) <;> try walk_at "ev")
  | ((with_reducible apply ed_andF); (walk_at "ev"); decide)
  | ((with_reducible apply ed_orT); (walk_at "ev"); decide)
  | ((with_reducible apply ed_andV) <;> (try (first | ((with_reducible show _ = true → _); intro _) | ((with_reducible show _ = false → _); intro _))) <;> try walk_at "ev")
  | ((with_reducible apply ed_orV) <;> (try (first | ((with_reducible show _ = true → _); intro _) | ((with_reducible show _ = false → _); intro _))) <;> try walk_at "ev")
  | ((with_reducible apply ed_notV) <;> try walk_at "ev")
  | ((with_reducible apply ed_tupB) <;> try walk_at "ev")
  | ((with_reducible apply ea_cons) <;> try walk_at "ev")
  | ((with_reducible apply har_d) <;> try walk_at "ev")
  | ((with_reducible apply eb_test) <;> try walk_at "ev")
  | ((with_reducible apply eb_B) <;> try walk_at "ev")
  | ((with_reducible apply eb_andF); (walk_at "ev"); decide)
  | ((with_reducible apply eb_orT); (walk_at "ev"); decide)
  | ((with_reducible apply eb_and) <;> (try (first | ((with_reducible show _ = true → _); intro _) | ((with_reducible show _ = false → _); intro _))) <;> try walk_at "ev")
  | ((with_reducible apply eb_or) <;> (try (first | ((with_reducible show _ = true → _); intro _) | ((with_reducible show _ = false → _); intro _))) <;> try walk_at "ev")
  | ((with_reducible apply eb_not) <;> try walk_at "ev")
  | ((with_reducible apply ed_call) <;> try walk_at "ev"))
local macro_rules | `(tactic| walk_at "go") => `(tactic| first
  | ((with_reducible apply run_seq); walk_at "go")
  | ((with_reducible apply run_next); (try (with_reducible show Run _ _ _ _)); (try walk_at "go"))
  | ((with_reducible apply run_if); (all_goals (try walk_at "ev")); (all_goals (try (((with_reducible show _ = true → _)); intro h; first | exact absurd h (by decide) | (try walk_at "go")))); (all_goals (try (((with_reducible show _ = false → _)); intro h; first | exact absurd h (by decide) | (try walk_at "go")))))
  | ((with_reducible apply run_asg); (all_goals (try walk_at "ev")); (all_goals (try (with_reducible show Run _ _ _ _))); (all_goals (try walk_at "go")))
  | ((with_reducible apply run_asgT2); (all_goals (try walk_at "ev")); (all_goals (try (with_reducible show Run _ _ _ _))); (all_goals (try walk_at "go")))
  | ((with_reducible apply run_ret); (all_goals (try walk_at "ev"))))
variable {P : Program} {w : World} {K : Fg} {mg : Str → Option Value} {base : Heap} {aN aO : Addr} {tR : Tok}
theorem trailFrom_form {p : Prog} (hp : p.Ok) : ∀ (n k : Nat) (vs : List Int), Fit p k vs → ∃ (a : List (Nat × List Int)) (x : Tr), lTrailFrom p n k vs = a.map mkSt ++ [x] ∧ x.isSt = false ∧ ∀ s ∈ a, s.2.length = p.many
  | 0, k, vs, h => by
    unfold lTrailFrom
    split
    · exact ⟨[], .late, rfl, rfl, fun s hs => by cases hs⟩
    · rename_i hk
      have hn : lMoved p k vs = .none := by rw [lMoved, List.getElem?_eq_none (by omega)]
      rw [hn]
      exact ⟨[], .none, rfl, rfl, fun s hs => by cases hs⟩
  | n + 1, k, vs, h => by
    unfold lTrailFrom
    cases e : lMoved p k vs with
    | st k' vs' =>
      have hf := moved_fit hp h e
      obtain ⟨a, x, h1, h2, h3⟩ := trailFrom_form hp n k' vs' hf
      refine ⟨(k', vs') :: a, x, ?_, h2, fun s hs => ?_⟩
      · show Tr.st k' vs' :: lTrailFrom p n k' vs' = _
        rw [h1]
        rfl
      · rcases List.mem_cons.mp hs with rfl | hs
        · exact hf.2.1
        · exact h3 s hs
    | none => exact ⟨[], .none, rfl, rfl, fun s hs => by cases hs⟩
    | told v => exact ⟨[], .told v, rfl, rfl, fun s hs => by cases hs⟩
    | late => exact ⟨[], .late, rfl, rfl, fun s hs => by cases hs⟩
theorem trail_form {p : Prog} (hp : p.Ok) {ins : List Int} (hi : ins.length = p.taken) (hs : ∀ v ∈ ins, Small v) (n : Nat) : ∃ (a : List (Nat × List Int)) (x : Tr), lTrail p ins n = a.map mkSt ++ [x] ∧ x.isSt = false ∧ ∀ s ∈ a, s.2.length = p.many := by
  have hf := start_fit p hp ins hi hs
  obtain ⟨a, x, h1, h2, h3⟩ := trailFrom_form hp n 0 _ hf
  refine ⟨(0, ins ++ List.replicate (p.many - ins.length) 0) :: a, x, ?_, h2, fun s hs => ?_⟩
  · unfold lTrail
    dsimp only
    rw [h1]
    rfl
  · rcases List.mem_cons.mp hs with rfl | hs
    · exact hf.2.1
    · exact h3 s hs
def putT (kn : Kn) (t : Tri) : Kn := putN kn (key t) t.2.2
theorem fold_get {g : Nat × Nat → Option Nat} : ∀ (ts : List Tri) (kn : Kn), (∀ t ∈ ts, g (key t) = some t.2.2) → (∀ x b, getN kn x = some b → g x = some b) →
    (∀ x b, getN (ts.foldl putT kn) x = some b → g x = some b) ∧ (∀ x, (∃ b, getN kn x = some b) → ∃ b, getN (ts.foldl putT kn) x = some b) ∧ ∀ t ∈ ts, ∃ b, getN (ts.foldl putT kn) (key t) = some b
  | [], kn, _, h => ⟨h, fun _ z => z, fun _ z => by cases z⟩
  | t :: ts, kn, ht, h => by
    obtain ⟨h1, h2, h3⟩ := fold_get ts (putT kn t) (fun u hu => ht u (List.mem_cons_of_mem _ hu)) fun x b hx => by
      unfold putT at hx
      rw [getN_put] at hx
      split at hx
      · rename_i e
        cases hx
        subst e
        exact ht t List.mem_cons_self
      · exact h x b hx
    refine ⟨h1, fun x hx => h2 x ?_, fun u hu => ?_⟩
    · unfold putT
      rw [getN_put]
      split
      · exact ⟨_, rfl⟩
      · exact hx
    · rcases List.mem_cons.mp hu with rfl | hu
      · refine h2 _ ?_
        unfold putT
        rw [getN_put, if_pos rfl]
        exact ⟨_, rfl⟩
      · exact h3 u hu
theorem fold_eq {g : Nat × Nat → Option Nat} {ts : List Tri} (h1 : ∀ t ∈ ts, g (key t) = some t.2.2) (h2 : ∀ x b, g x = some b → (x.1, x.2, b) ∈ ts) : getN (ts.foldl putT []) = g := by
  obtain ⟨a1, a2, a3⟩ := fold_get ts [] h1 (fun x b h => by cases h)
  funext x
  cases e : g x with
  | none =>
    cases e2 : getN (ts.foldl putT []) x with
    | none => rfl
    | some b =>
      have := a1 x b e2
      rw [e] at this
      cases this
  | some b =>
    obtain ⟨b', hb⟩ := a3 _ (h2 x b e)
    have hb' : getN (ts.foldl putT []) x = some b' := hb
    have := a1 x b' hb'
    rw [e] at this
    cases this
    exact hb'
theorem putT_len : ∀ (ts : List Tri) (kn : Kn), (ts.foldl putT kn).length ≤ kn.length + ts.length
  | [], kn => Nat.le_refl _
  | t :: ts, kn => by
    have h := putT_len ts (putT kn t)
    have h2 : (putT kn t).length ≤ kn.length + 1 := by
      unfold putT
      rw [put_len]
      split <;> omega
    show (ts.foldl putT (putT kn t)).length ≤ _
    rw [List.length_cons]
    omega
def smallD : PyData → PyData
  | .int c => .int (lSmall c)
  | d => d
/-- what is to be shown of the plain functions -/
def MathNone : Prop := ∀ ns, (¬ ∃ S, Closed (lTwo ns).1 (lTwo ns).2 S) → lWay ns ≠ 0 ∧ lWay ns ≠ 1 ∧ lWay ns ≠ 5
def MathKept : Prop := ∀ (p q : Prog), p.Ok → q.Ok → p.taken = q.taken → p.many = q.many → ∀ g, Kept p q g → ∀ ins : List Int, ins.length = p.taken → (∀ v ∈ ins, Small v) → ∀ n, lAlong g (lTrail p ins n) (lTrail q ins n) = true
theorem df_mkF {P : Program} {w : World} {K : Fg} {mg : Str → Option Value} {base : Heap} {x : Str} {st : Stmt} {N ps : List Str} {k : Nat} {F : List Ent → Ent → Prop} {f : Addr} {fd : FuncData} (D : FunP K x st f fd) (S : FnScope N ps (defScope st))
    (hb : ∀ (kV doc pm : Value) (an : Option Addr) (cdv ct : Value) (us : List Value), us.length = ps.length → bindArgs (PySem.W.fnOf x x (defArgs st) (defBody st) (defScope st) .none kV doc pm an cdv ct) ⟨us, []⟩ = pure (ps.zip us)) (len : ∀ es r, F es r → es.length = ps.length)
    (hbody : ∀ (f : Addr) (cdv : Value) (A : Around) (outer : List PySem.Env) (s : Shared) (H : Hp) (E : XK), Room k (A.deeper (envOfC x (defScope st) s.heap.objs.size f cdv)) → ∀ es r, F es r →
      ∃ t, PSs (cxOf CX0 P w K mg base N x (defScope st) f cdv A outer s H E).nox (defBody st) t ∧ Run K t (env0 N.length es) (PRet (· = r))) : FnOk P w K mg base CX0 (k + 1) f fd ps (spF K F) := by
  refine D.ok S (fun vs H Q E h => ?_) (fun cdv A outer s H vs Q E hr h => ?_)
  · obtain ⟨es, r, ha, hF, _⟩ := h
    rw [har_len ha, len es r hF]
  · obtain ⟨es, r, ha, hF, q⟩ := h
    obtain ⟨t, h1, h2⟩ := hbody f cdv A outer s H E hr es r hF
    refine ⟨t, h1.nox, body_ok h2 ha fun r' v H' e x h => ?_⟩
    subst e
    exact q v H' x h
abbrev sLaw : Stmt := top 42
theorem scLaw : FnScope ["_law_script", "_law_one", "_law_other", "_law_found", "_law_agreed", "_law_k", "_law_j", "_law_bits", "_law_limit", "_law_turn", "_law_cells", "_law_inputs", "_law_cell"] ["_law_script"] (defScope sLaw) := ⟨rfl, rfl, rfl, by decide +kernel, rfl, by decide +kernel, by decide +kernel⟩
def FLaw (es : List Ent) (r : Ent) : Prop := ∃ (ns : List Int), es = [.l (ns.map PyData.int)] ∧ r = .d (.bool true)
theorem dfLaw (M1 : MathNone) (M2 : MathKept) (G : Gs K mg aN aO tR) (dLAlong : Df P w K mg base "_law_along" 2 ["_law_agreed", "_law_here", "_law_there"] (spF K FLAlong)) (dLTrail : Df P w K mg base "_law_trail" 3 ["_law_program", "_law_inputs", "_law_limit"] (spF K FLTrail))
    (dLSmall : Df P w K mg base "_law_small" 1 ["_law_cell"] (spF K FLSmall)) (dLCell : Df P w K mg base "_law_cell_at" 1 ["_law_script", "_law_k"] (spF K FLCell)) (dFoundPaper : Df P w K mg base "found_paper" 7 ["one", "other"] (spG K FFound)) (dLTwo : Df P w K mg base "_law_two" 5 ["_law_script"] (spF K FLTwo))
    {fL : Addr} {fd : FuncData} (D : FunP K "law" sLaw fL fd) : FnOk P w K mg base CX0 8 fL fd ["_law_script"] (spF K FLaw) := by
  refine df_mkF D scLaw (fun _ _ _ _ _ _ us hl => match us, hl with | [_], _ => rfl) (fun es r h => ?_) fun f cdv A outer s H E hr es r hF => ⟨_, (pss_cons (ps_asg (pe_df dLTwo (hr.mono (by decide)) rfl (pa_cons (pv 0) pa_nil)) (pg_tup rfl (pgs_cons (pg_name (i := 1) scLaw.nd rfl (Or.inl rfl)) (pgs_cons (pg_name (i := 2) scLaw.nd rfl (Or.inl rfl)) pgs_nil))))
    (pss_cons (ps_set (i := 3) scLaw.nd rfl (Or.inl rfl) (pe_df dFoundPaper (hr.mono (by decide)) rfl (pa_cons (pv 1) (pa_cons (pv 2) pa_nil))))
    (pss_cons (ps_if (pt_cmpR op_isN1 (pv 3) pe_non (nomark _))
      (pss_one (ps_ret (pe_cmpR op_notIn_seq (pe_op op_mod (pe_df dLCell (hr.mono (by decide)) rfl (pa_cons (pv 0) (pa_cons pe_int pa_nil))) pe_int) (pe_lst (pa_cons pe_int (pa_cons pe_int (pa_cons pe_int pa_nil)))) rfl)))
      pss_nil)
    (pss_cons (ps_set (i := 4) scLaw.nd rfl (Or.inl rfl) pe_dnewT)
    (pss_cons (ps_for PassesOwn.never rfl (pi_tup (pv 3)) (pg_tup rfl (pgs_cons (pg_name (i := 5) scLaw.nd rfl (Or.inl rfl)) (pgs_cons (pg_name (i := 6) scLaw.nd rfl (Or.inl rfl)) (pgs_cons (pg_name (i := 7) scLaw.nd rfl (Or.inl rfl)) pgs_nil))))
      (pss_one (ps_dput (hu_of hr) (pv 4) (pe_tup (pa_cons (pv 5) (pa_cons (pv 6) pa_nil))) (pv 7) rfl)))
    (pss_cons (ps_set (i := 8) scLaw.nd rfl (Or.inl rfl) (pe_op op_mod (pe_op op_fdiv (pe_df dLCell (hr.mono (by decide)) rfl (pa_cons (pv 0) (pa_cons pe_int pa_nil))) pe_int) pe_int))
    (pss_cons (ps_if (pt_cmpR op_eq (pe_op op_mod (pe_df dLCell (hr.mono (by decide)) rfl (pa_cons (pv 0) (pa_cons pe_int pa_nil))) pe_int) pe_int (nomark _))
      (pss_one (ps_set (i := 8) scLaw.nd rfl (Or.inl rfl) (pe_op op_mod (pe_op op_fdiv (pe_df dLCell (hr.mono (by decide)) rfl (pa_cons (pv 0) (pa_cons pe_int pa_nil))) pe_int) pe_int)))
      pss_nil)
    (pss_cons (ps_for PassesOwn.never rfl (pi_range1 rfl G.range (pa_cons pe_int pa_nil)) (pg_name (i := 9) scLaw.nd rfl (Or.inr rfl))
      (pss_cons (ps_setLc (i := 10) (own := [("_law_k", 5)]) (tt := tYes) rfl scLaw.nd rfl rfl (sw_true rfl rfl rfl (by decide +kernel)) (pi_range1 rfl G.range (pa_cons (pe_callB call_len1 (by rfl) G.len PySem.boot_len (pa_cons (pe_ix ix_tup (pv 1) pe_int (fun _ _ => rfl)) pa_nil)) pa_nil)) (blkOk_by (own := [("_law_k", 5)]) (N := ["_law_script", "_law_one", "_law_other", "_law_found", "_law_agreed", "_law_k", "_law_j", "_law_bits", "_law_limit", "_law_turn", "_law_cells", "_law_inputs", "_law_cell"]) (sc := defScope sLaw) (by decide +kernel)) (fun _ _ _ _ _ => (pg_name (i := 5) scLaw.nd rfl (Or.inl rfl) (.inr rfl))) (fun _ _ _ _ _ => pts_nil) (fun _ _ _ _ _ => (pe_op op_add (pe_op op_fdiv (pe_df dLCell (hr.mono (by decide)) rfl (pa_cons (pv 0) (pa_cons (pe_op op_add pe_int (pv 5)) pa_nil))) (pe_op op_add pe_int (pe_op op_mul pe_int (pv 9)))) (pv 9))))
    (pss_cons (ps_set (i := 11) scLaw.nd rfl (Or.inl rfl) (pe_callTy call_tup1 (by rfl) G.tuple (by decide +kernel) (pa_cons (pe_lc (own := [("_law_cell", 12)]) (tt := tYes) rfl scLaw.nd (pi_list (pv 10)) (blkOk_by (own := [("_law_cell", 12)]) (N := ["_law_script", "_law_one", "_law_other", "_law_found", "_law_agreed", "_law_k", "_law_j", "_law_bits", "_law_limit", "_law_turn", "_law_cells", "_law_inputs", "_law_cell"]) (sc := defScope sLaw) (by decide +kernel)) (fun _ _ _ _ _ => (pg_name (i := 12) scLaw.nd rfl (Or.inl rfl) (.inr rfl))) (fun _ _ _ _ _ => pts_nil) (fun _ _ _ _ _ => (pe_df dLSmall (hr.mono (by decide)) rfl (pa_cons (pv 12) pa_nil)))) pa_nil)))
    (pss_one (ps_if (pt_not (pt_val (pe_df dLAlong (hr.mono (by decide)) rfl (pa_cons (pv 4) (pa_cons (pe_df dLTrail (hr.mono (by decide)) rfl (pa_cons (pv 1) (pa_cons (pv 11) (pa_cons (pv 8) pa_nil)))) (pa_cons (pe_df dLTrail (hr.mono (by decide)) rfl (pa_cons (pv 2) (pa_cons (pv 11) (pa_cons (pv 8) pa_nil)))) pa_nil))))))
      (pss_one (ps_ret pe_bl))
      pss_nil)))))
    (pss_one (ps_ret pe_bl)))))))))), ?_⟩
  · obtain ⟨ns, rfl, _⟩ := h
    rfl
  obtain ⟨ns, rfl, rfl⟩ := hF
  try dsimp only [cxOf, Cx.nox, Cx.wish]
  have hw8 := lWay_lt ns
  have hwy : cellAt ns 1 % 8 = (lWay ns : Int) := (toNat_mod (by decide)).symm
  have ok := lTwo_ok ns
  have m1 := M1 ns
  have same : (lTwo ns).1.taken = (lTwo ns).2.taken ∧ (lTwo ns).1.many = (lTwo ns).2.many ∧ (lTwo ns).1.taken ≤ 3 := by
    have := lTaken_le ns
    rw [lTwo_eq]
    split <;> exact ⟨rfl, rfl, this⟩
  have cell : ∀ (k : Nat) (δ : Env), k ≤ 1000 → δ[0]? = some (some (.l (ns.map PyData.int))) → EvD K (tCall (spF K FLCell) [] E0 (tCons (tVar 0) (tCons (tC (.int (k : Int))) tNil))) δ (.int (cellAt ns k)) := fun k δ hk h0 =>
    ed_call (es := [.l (ns.map PyData.int), .d (.int (k : Int))]) (har_l (er_l h0) (har_d ed_int har_nil)) ⟨ns, k, rfl, hk, rfl⟩
  refine run_seq (run_asgT2 (x := (lTwo ns).1.enc) (y := (lTwo ns).2.enc) (ed_call (es := [.l (ns.map PyData.int)]) (har_l (er_l rfl) har_nil) ⟨ns, rfl, rfl⟩) rfl ?_)
  generalize (lTwo ns).1 = p at ok m1 same ⊢
  generalize (lTwo ns).2 = q at ok m1 same ⊢
  obtain ⟨hp, hq⟩ := ok
  obtain ⟨st1, st2, ht3⟩ := same
  refine run_seq (run_callG (es := [.d p.enc, .d q.enc]) (R := FoundR p q) (har_d (ed_var rfl) (har_d (ed_var rfl) har_nil)) ⟨p, q, rfl, hp, hq, rfl⟩ fun r hr => ?_)
  rcases hr with ⟨rfl, hno⟩ | ⟨ts, g, rfl, htl, hk, hg1, hg2⟩
  · refine ⟨_, rfl, ?_⟩
    obtain ⟨n0, n1, n5⟩ := m1 hno
    refine run_seq (run_if (b := true) (eb_is (eb_test (ed_op (ed_var rfl) ed_non (rv_isN (x := .none)))) rfl) (fun _ => ?_) (fun h => by cases h))
    refine run_ret (x := .bool true) (ed_is (ed_niL (x := .int (lWay ns : Int)) (ds := [.int 0, .int 1, .int 5]) (ed_is (ed_I (f := fun i j => i % j) (cell 1 _ (by decide) rfl) ed_int (by decide)) (by rw [hwy])) (er_n (en_lstB (ea_cons ed_int (ea_cons ed_int (ea_cons ed_int ea_nil))) rfl)) rfl rfl) ?_) rfl
    rw [in_015 _ hw8, decide_eq_false (by omega)]
    rfl
  refine ⟨_, rfl, ?_⟩
  refine run_seq (run_if (b := false) (eb_is (eb_test (ed_op (ed_var rfl) ed_non (rv_isN (x := .tuple (ts.map encT))))) rfl) (fun h => by cases h) (fun _ => ?_))
  apply run_next
  refine run_seq (run_asgM0 ?_)
  let fin : Kn := ts.foldl putT []
  have hfin : getN fin = g := fold_eq hg1 hg2
  refine run_mid (fun d => ∃ x5 x6 x7, d = [some (.l (ns.map PyData.int)), some (.d p.enc), some (.d q.enc), some (.d (.tuple (ts.map encT))), some (.m none (toKvs fin)), x5, x6, x7, none, none, none, none, none]) ?_ ?_
  · refine run_forT (fun i d => ∃ x5 x6 x7, d = [some (.l (ns.map PyData.int)), some (.d p.enc), some (.d q.enc), some (.d (.tuple (ts.map encT))), some (.m none (toKvs ((ts.take i).foldl putT []))), x5, x6, x7, none, none, none, none, none]) (tg_tup (is := [5, 6, 7]) rfl) (ed_var rfl) ⟨none, none, none, rfl⟩ (fun i x d hx hd => ?_) (fun d hd => ?_)
    · obtain ⟨x5, x6, x7, rfl⟩ := hd
      rw [List.getElem?_map] at hx
      cases hc : ts[i]? with
      | none => rw [hc] at hx; cases hx
      | some t =>
        rw [hc] at hx
        cases hx
        obtain ⟨k, j, b⟩ := t
        refine ⟨⟨_, rfl, rfl⟩, ?_⟩
        show Run K _ [some (.l (ns.map PyData.int)), some (.d p.enc), some (.d q.enc), some (.d (.tuple (ts.map encT))), some (.m none (toKvs ((ts.take i).foldl putT []))), some (.d (.int (k : Int))), some (.d (.int (j : Int))), some (.d (.int (b : Int))), none, none, none, none, none] _
        have hl := putT_len (ts.take i) []
        have hl2 : (ts.take i).length ≤ ts.length := by rw [List.length_take]; omega
        rw [List.length_nil] at hl
        have e1 : (ts.take (i + 1)).foldl putT [] = putN ((ts.take i).foldl putT []) (k, j) b := by
          rw [List.take_add_one, hc, List.foldl_append]
          rfl
        rw [e1]
        generalize (ts.take i).foldl putT [] = c at hl ⊢
        refine run_put (i := 4) (kvs := toKvs c) (k := ((k : Int), (j : Int))) (n := (b : Int)) rfl (ed_var rfl) (ek_tup (ed_var rfl) (ed_var rfl)) (by rw [toKvs_len]; omega) ?_
        have e2 : putD (toKvs c) ((k : Int), (j : Int)) (b : Int) = toKvs (putN c (k, j) b) := put_ck c (k, j) b
        rw [e2]
        exact ⟨_, _, _, rfl⟩
    · obtain ⟨x5, x6, x7, rfl⟩ := hd
      rw [List.length_map, List.take_length]
      exact ⟨x5, x6, x7, rfl⟩
  intro d hd
  obtain ⟨x5, x6, x7, rfl⟩ := hd
  have l1 : cellAt ns 9 / 8 % 25 = ((cellAt ns 9 / 8 % 25).toNat : Int) := (toNat_mod (by decide)).symm
  have l2 : cellAt ns 9 / 8 % 201 = ((cellAt ns 9 / 8 % 201).toNat : Int) := (toNat_mod (by decide)).symm
  have hlim : lLimit ns ≤ 200 := by
    unfold lLimit
    split <;> omega
  refine run_seq (run_asg (x := .int (cellAt ns 9 / 8 % 25)) (ed_I (f := fun i j => i % j) (ed_I (f := fun i j => i / j) (cell 9 _ (by decide) rfl) ed_int ⟨by decide, by decide⟩) ed_int (by decide)) ?_)
  refine run_cut [some (.l (ns.map PyData.int)), some (.d p.enc), some (.d q.enc), some (.d (.tuple (ts.map encT))), some (.m none (toKvs fin)), x5, x6, x7, some (.d (.int (lLimit ns : Int))), none, none, none, none] ?_ ?_
  · refine run_if (b := decide (cellAt ns 9 % 8 = 3)) (eb_test (ed_op (ed_I (f := fun i j => i % j) (cell 9 _ (by decide) rfl) ed_int (by decide)) ed_int rv_eqI)) (fun h => ?_) (fun h => ?_)
    · refine run_asg (x := .int (cellAt ns 9 / 8 % 201)) (ed_I (f := fun i j => i % j) (ed_I (f := fun i j => i / j) (cell 9 _ (by decide) rfl) ed_int ⟨by decide, by decide⟩) ed_int (by decide)) ?_
      show _ = _
      rw [lLimit, if_pos (of_decide_eq_true h), ← l2]
      rfl
    · apply run_next
      show _ = _
      rw [lLimit, if_neg (of_decide_eq_false h), ← l1]
      rfl
  generalize lLimit ns = lim at hlim ⊢
  refine run_mid (fun _ => True) ?_ (fun d _ => run_ret ed_bl rfl)
  refine run_forR (n := 3) (fun i d => ∃ x5 x9 x10 x11, d = [some (.l (ns.map PyData.int)), some (.d p.enc), some (.d q.enc), some (.d (.tuple (ts.map encT))), some (.m none (toKvs fin)), x5, x6, x7, some (.d (.int (lim : Int))), x9, x10, x11, none]) ed_int (by decide) ⟨x5, none, none, none, rfl⟩ (fun turn d hturn hd => ?_) (fun d hd => trivial)
  obtain ⟨x5, x9, x10, x11, rfl⟩ := hd
  show Run K _ [some (.l (ns.map PyData.int)), some (.d p.enc), some (.d q.enc), some (.d (.tuple (ts.map encT))), some (.m none (toKvs fin)), x5, x6, x7, some (.d (.int (lim : Int))), some (.d (.int (turn : Int))), x10, x11, none] _
  have htk : ∀ (δ : Env), δ[1]? = some (some (.d p.enc)) → EvD K (tOp (rIxT K) (tVar 1) (tC (.int 0))) δ (.tuple p.takes) := fun δ h => ed_ixT (ds := [.tuple p.takes, .int (p.many : Int), .tuple (p.rows.map Rw.enc)]) (ed_var h) rfl
  have htl' : p.takes.length = p.taken := List.length_replicate
  let cs : List Int := (List.range p.taken).map fun k => cellAt ns (58 + k) / (1 + 5 * (turn : Int)) + turn
  refine run_seq (run_asgN (ds := cs.map PyData.int) (by
    have e : cs.map PyData.int = (List.range p.taken).map fun k => PyData.int (cellAt ns (58 + k) / (1 + 5 * (turn : Int)) + turn) := List.map_map
    rw [e]
    refine en_lcR (n := p.taken) (vs := [5]) (fun k => PyData.int (cellAt ns (58 + k) / (1 + 5 * (turn : Int)) + turn)) (ed_is (ed_lenT (htk _ rfl)) (by rw [htl'])) (by omega) (by decide) fun k hk => ?_
    exact ed_I0 (f := fun i j => i + j) (ed_I (f := fun i j => i / j) (ed_call (es := [.l (ns.map PyData.int), .d (.int ((58 + k : Nat) : Int))]) (har_l (er_l rfl) (har_d (ed_is (x := .int (58 + (k : Int))) (ed_I0 (f := fun i j => i + j) ed_int (ed_var rfl)) (by congr 1)) har_nil)) ⟨ns, _, rfl, by omega, rfl⟩) (ed_I0 (f := fun i j => i + j) ed_int (ed_I (f := fun i j => i * j) ed_int (ed_var rfl) (.inl ⟨by decide, by decide⟩))) ⟨by omega, by omega⟩) (ed_var rfl)) ?_)
  have hins : (cs.map PyData.int).map smallD = (cs.map lSmall).map PyData.int := by
    generalize cs = l
    rw [List.map_map, List.map_map]
    rfl
  have hcl : (cs.map lSmall).length = p.taken := by rw [List.length_map, List.length_map, List.length_range]
  have hcs : ∀ v ∈ cs.map lSmall, Small v := fun v hv => by
    rw [List.mem_map] at hv
    obtain ⟨c, _, rfl⟩ := hv
    exact lSmall_small c
  refine run_seq (run_asg (x := encV (cs.map lSmall)) (ed_is (ed_tupOf (er_n (en_lcL (vs := [12]) smallD (tgw_name (by decide)) (er_o rfl) (by rw [List.length_map, List.length_map, List.length_range]; omega) fun x hx => ⟨trivial, ?_⟩))) (by rw [hins]; rfl)) ?_)
  · rw [List.mem_map] at hx
    obtain ⟨c, _, rfl⟩ := hx
    exact ed_call (es := [.d (.int c)]) (har_d (ed_var rfl) har_nil) ⟨c, rfl, rfl⟩
  generalize cs.map lSmall = ins at hcl hcs ⊢
  have hkp := M2 p q hp hq st1 st2 g hk ins hcl hcs lim
  obtain ⟨a, x, ea, hx, ha⟩ := trail_form hp hcl hcs lim
  obtain ⟨b, y, eb, hy, hb⟩ := trail_form hq (hcl.trans st1) hcs lim
  rw [ea, eb, ← hfin] at hkp
  refine run_if (b := false) (eb_is (eb_not (eb_B (ed_call (es := [.r (toKvs fin), .l ((a.map mkSt ++ [x]).map Tr.enc), .l ((b.map mkSt ++ [y]).map Tr.enc)]) (har_m (i := 4) rfl (har_l (er_n (en_call (es := [.d p.enc, .d (encV ins), .d (.int (lim : Int))]) (har_d (ed_var rfl) (har_d (ed_var rfl) (har_d (ed_var rfl) har_nil))) ⟨p, ins, lim, rfl, hp, hcl, hcs, hlim, by rw [ea]⟩)) (har_l (er_n (en_call (es := [.d q.enc, .d (encV ins), .d (.int (lim : Int))]) (har_d (ed_var rfl) (har_d (ed_var rfl) (har_d (ed_var rfl) har_nil))) ⟨q, ins, lim, rfl, hq, hcl.trans st1, hcs, hlim, by rw [eb]⟩)) har_nil))) ⟨fin, a, b, x, y, p.many, rfl, ha, fun s hs => (hb s hs).trans st2.symm, hp.1, hx, hy, rfl⟩))) (by rw [hkp]; rfl)) (fun h => by cases h) (fun _ => ?_)
  exact run_next ⟨_, _, _, _, rfl⟩
end Fkh
/-! the plain law: what a kept paper says of two runs -/
namespace Fkh
open PySem L2
def act (o : Rw) (k : Nat) (vs : List Int) : Tr := match o with
  | .tell y => .told (worth y vs)
  | .put x y s z => .st (k + 1) (vs.set x (lReckon (worth y vs) s (worth z vs)))
  | .go t => .st t vs
  | .cond y s z t => if isSo (worth y vs) s (worth z vs) = true then .st t vs else .st (k + 1) vs
  | .skip => .st (k + 1) vs
theorem moved_act (p : Prog) (k : Nat) (vs : List Int) : lMoved p k vs = match p.rows[k]? with
    | none => .none
    | some o => act o k vs := by
  unfold lMoved
  cases p.rows[k]? with
  | none => rfl
  | some o => cases o <;> rfl
theorem around_small {n : Int} (h : Small n) : around n = n := by
  obtain ⟨h1, h2⟩ := h
  unfold around
  omega
theorem fmod_small {a b : Int} (hb : Small b) (h0 : b ≠ 0) : Small (a.fmod b) := by
  obtain ⟨h1, h2⟩ := hb
  by_cases hp : 0 < b
  · have l1 := Int.fmod_nonneg_of_pos a hp
    have l2 := Int.fmod_lt_of_pos a hp
    exact ⟨by omega, by omega⟩
  · have e := Int.fmod_def a b
    have l1 : 0 ≤ (-a).fmod (-b) := Int.fmod_nonneg_of_pos _ (by omega)
    have l2 : (-a).fmod (-b) < -b := Int.fmod_lt_of_pos _ (by omega)
    have e2 : (-a).fmod (-b) = -(a.fmod b) := by
      rw [Int.fmod_def, Int.fmod_def, Int.neg_fdiv_neg, Int.neg_mul]
      omega
    rw [e2] at l1 l2
    exact ⟨by omega, by omega⟩
theorem reckon_eq {a b : Int} (s : Sgn) (ha : Small a) (hb : Small b) : lReckon a s b = reckon a s b := by
  unfold lReckon lFound reckon
  cases s with
  | add => rfl
  | sub => rfl
  | mul => rfl
  | div =>
    dsimp only
    split
    · decide
    · rfl
  | mod =>
    dsimp only
    split
    · exact around_small ha
    · rename_i h
      exact around_small (fmod_small hb h)
theorem reckon_small {a b : Int} (s : Sgn) (ha : Small a) (hb : Small b) : Small (reckon a s b) := by
  rw [← reckon_eq s ha hb]
  exact small_around _
theorem around_in (a b : Int) : around (a + around b) = around (a + b) := by
  unfold around
  omega
/-- a put is told by what it puts -/
theorem act_put {x : Nat} {y z : Opd} {s : Sgn} {k : Nat} {vs : List Int} {v : Int} (h : lReckon (worth y vs) s (worth z vs) = v) : act (.put x y s z) k vs = .st (k + 1) (vs.set x v) := by
  rw [← h]
  rfl
theorem act_put4 {x : Nat} {y z : Opd} {s : Sgn} {k : Nat} {vs : List Int} (hv : ∀ v ∈ vs, Small v) : act (madePut4 x y s z) k vs = act (.put x y s z) k vs := by
  unfold madePut4
  split
  · rename_i h
    simp only [Bool.and_eq_true, decide_eq_true_eq] at h
    obtain ⟨rfl, rfl, rfl⟩ := h
    show Tr.st (k + 1) vs = Tr.st (k + 1) (vs.set x (around (vs.getD x 0 + 0)))
    congr 1
    by_cases hx : x < vs.length
    · have e : vs.getD x 0 = vs[x] := by rw [List.getD_eq_getElem?_getD, List.getElem?_eq_getElem hx]; rfl
      rw [e, Int.add_zero, around_small (hv _ (List.getElem_mem hx)), List.set_getElem_self]
    · rw [List.set_eq_of_length_le (by omega)]
  · rfl
theorem act_put3 {x : Nat} {y z : Opd} {s : Sgn} {k : Nat} {vs : List Int} (hv : ∀ v ∈ vs, Small v) : act (madePut3 x y s z) k vs = act (.put x y s z) k vs := by
  unfold madePut3
  split
  · rename_i h
    refine Eq.trans (act_put (v := 0) (show around (0 + 0) = 0 by decide)) (act_put (v := 0) ?_).symm
    cases s with
    | mul =>
      have e : z = .num 0 := of_decide_eq_true h
      subst e
      show around (worth y vs * 0) = 0
      rw [Int.mul_zero]
      decide
    | mod =>
      have e : z = .num 1 := of_decide_eq_true h
      subst e
      show around (if (1 : Int) = 0 then worth y vs else (worth y vs).fmod 1) = 0
      rw [if_neg (by decide), Int.fmod_one]
      decide
    | sub =>
      have e : y = z := of_decide_eq_true h
      subst e
      show around (worth y vs - worth y vs) = 0
      rw [Int.sub_self]
      decide
    | add => cases h
    | div => cases h
  · split
    · rename_i h
      simp only [Bool.and_eq_true, Bool.or_eq_true, decide_eq_true_eq] at h
      obtain ⟨hs, rfl⟩ := h
      rw [act_put4 hv]
      refine Eq.trans (act_put (v := around (worth y vs)) ?_) (act_put (v := around (worth y vs)) ?_).symm
      · show around (worth y vs + 0) = _
        rw [Int.add_zero]
      · rcases hs with rfl | rfl
        · show around (worth y vs * 1) = _
          rw [Int.mul_one]
        · show around (if (1 : Int) = 0 then 0 else (worth y vs).fdiv 1) = _
          rw [if_neg (by decide), Int.fdiv_one]
    · exact act_put4 hv
theorem act_put2 {x : Nat} {y z : Opd} {s : Sgn} {k : Nat} {vs : List Int} (hv : ∀ v ∈ vs, Small v) : act (madePut2 x y s z) k vs = act (.put x y s z) k vs := by
  unfold madePut2
  split
  · rename_i h
    rw [act_put3 hv]
    simp only [Bool.and_eq_true, Bool.or_eq_true, decide_eq_true_eq] at h
    refine Eq.trans (act_put rfl) (act_put ?_).symm
    rcases h.1 with rfl | rfl
    · show around (worth y vs + worth z vs) = around (worth z vs + worth y vs)
      rw [Int.add_comm]
    · show around (worth y vs * worth z vs) = around (worth z vs * worth y vs)
      rw [Int.mul_comm]
  · exact act_put3 hv
theorem act_madePut {x m : Nat} {y z : Opd} {s : Sgn} {k : Nat} {vs : List Int} (hv : ∀ v ∈ vs, Small v) (hy : y.Ok m) (hz : z.Ok m) : act (madePut x y s z) k vs = act (.put x y s z) k vs := by
  unfold madePut
  split
  · rename_i h
    rw [Bool.and_eq_true] at h
    have sy := hy.num h.1
    have sz := hz.num h.2
    have ey : worth y vs = y.val := by cases y <;> first | rfl | cases h.1
    have ez : worth z vs = z.val := by cases z <;> first | rfl | cases h.2
    refine Eq.trans (act_put (v := reckon y.val s z.val) ?_) (act_put (v := reckon y.val s z.val) ?_).symm
    · show around (reckon y.val s z.val + 0) = _
      rw [Int.add_zero, around_small (reckon_small s sy sz)]
    · rw [ey, ez, reckon_eq s sy sz]
  · split
    · rename_i h
      simp only [Bool.and_eq_true, decide_eq_true_eq] at h
      obtain ⟨rfl, hn⟩ := h
      have ez : worth z vs = z.val := by cases z <;> first | rfl | cases hn
      rw [act_put2 hv]
      refine Eq.trans (act_put rfl) (act_put ?_).symm
      show around (worth y vs - worth z vs) = around (worth y vs + around (0 - z.val))
      rw [around_in, ez]
      congr 1
      omega
    · exact act_put2 hv
theorem act_cond {y z y' z' : Opd} {s s' : Cmp} {t k : Nat} {vs : List Int} (h : isSo (worth y vs) s (worth z vs) = isSo (worth y' vs) s' (worth z' vs)) : act (.cond y s z t) k vs = act (.cond y' s' z' t) k vs := by
  show (if _ then _ else _) = (if _ then _ else _)
  rw [h]
theorem act_if3 {y z : Opd} {s : Cmp} {t k : Nat} {vs : List Int} : act (madeIf3 y s z t) k vs = act (.cond y s z t) k vs := by
  unfold madeIf3
  split
  · rename_i h
    subst h
    unfold lessThan
    split
    · rename_i h
      rw [Bool.and_eq_true] at h
      have ez : worth z vs = z.val := by cases z <;> first | rfl | cases h.1
      refine act_cond ?_
      show decide (worth y vs < z.val + 1) = decide (worth y vs ≤ worth z vs)
      rw [ez]
      congr 1
      apply propext
      omega
    · split
      · rename_i h
        rw [Bool.and_eq_true] at h
        have ey : worth y vs = y.val := by cases y <;> first | rfl | cases h.1
        refine act_cond ?_
        show decide (y.val - 1 < worth z vs) = decide (worth y vs ≤ worth z vs)
        rw [ey]
        congr 1
        apply propext
        omega
      · rfl
  · rfl
theorem isSo_self (a b : Int) (s : Cmp) : isSo a s a = isSo b s b := by
  cases s <;> simp [isSo]
theorem act_if2 {y z : Opd} {s : Cmp} {t k : Nat} {vs : List Int} : act (madeIf2 y s z t) k vs = act (.cond y s z t) k vs := by
  unfold madeIf2
  split
  · rename_i h
    have e : isSo y.val s z.val = isSo (worth y vs) s (worth z vs) := by
      rw [Bool.or_eq_true, Bool.and_eq_true] at h
      rcases h with h | h
      · have h := of_decide_eq_true h
        subst h
        exact isSo_self _ _ _
      · have ey : worth y vs = y.val := by cases y <;> first | rfl | cases h.1
        have ez : worth z vs = z.val := by cases z <;> first | rfl | cases h.2
        rw [ey, ez]
    rw [e]
    show act (if _ then _ else _) k vs = (if _ then _ else _)
    split <;> rfl
  · split
    · rename_i h
      rw [act_if3]
      simp only [Bool.and_eq_true, Bool.or_eq_true, decide_eq_true_eq] at h
      refine act_cond ?_
      rcases h.1 with rfl | rfl
      · show decide _ = decide _
        congr 1
        exact propext ⟨Eq.symm, Eq.symm⟩
      · show (!decide _) = (!decide _)
        congr 2
        exact propext ⟨Eq.symm, Eq.symm⟩
    · exact act_if3
theorem act_madeIf {y z : Opd} {s : Cmp} {t k : Nat} {vs : List Int} : act (madeIf y s z t) k vs = act (.cond y s z t) k vs := by
  unfold madeIf
  split
  · rename_i h
    rw [act_if2]
    simp only [Bool.or_eq_true, decide_eq_true_eq] at h
    refine act_cond ?_
    rcases h with rfl | rfl <;> rfl
  · exact act_if2
theorem act_made {o : Rw} {m n k : Nat} {vs : List Int} (ho : o.Ok m n) (hv : ∀ v ∈ vs, Small v) : act (madeRow o k) k vs = act o k vs := by
  cases o with
  | put x y s z => exact act_madePut hv ho.2.1 ho.2.2
  | cond y s z t =>
    show act (if t = k + 1 then _ else _) k vs = _
    split
    · rename_i h
      subst h
      show Tr.st (k + 1) vs = (if _ then _ else _)
      split <;> rfl
    · exact act_madeIf
  | go t =>
    show act (if t = k + 1 then _ else _) k vs = _
    split
    · rename_i h
      subst h
      rfl
    · rfl
  | tell y => rfl
  | skip => rfl
theorem moved_row {p : Prog} (hp : p.Ok) {k : Nat} {vs : List Int} (hv : ∀ v ∈ vs, Small v) : lMoved p k vs = match rowAt p k with
    | none => .none
    | some o => act o k vs := by
  rw [moved_act]
  unfold rowAt
  cases e : p.rows[k]? with
  | none => rfl
  | some o => exact (act_made (hp.2.2.2 o (List.mem_of_getElem? e)) hv).symm
/-! ### bits -/
theorem tab_at {f : Nat → Nat → Nat → Bool} (h : ((List.range 64).all fun b => (List.range 6).all fun x => (List.range 6).all fun i => f b x i) = true) {b x i : Nat} (hb : b < 64) (hx : x < 6) (hi : i < 6) : f b x i = true := by
  have h1 := List.all_eq_true.mp h b (List.mem_range.mpr hb)
  have h2 := List.all_eq_true.mp h1 x (List.mem_range.mpr hx)
  exact List.all_eq_true.mp h2 i (List.mem_range.mpr hi)
theorem drop_tab (b : Nat) (hb : b < 64) (x : Nat) (hx : x < 6) (i : Nat) (hi : i < 6) (h : (b - (b &&& 1 <<< x)).testBit i = true) : b.testBit i = true ∧ i ≠ x := by
  have z := tab_at (f := fun b x i => !(b - (b &&& 1 <<< x)).testBit i || (b.testBit i && !decide (i = x))) (by decide +kernel) hb hx hi
  rw [h] at z
  simpa using z
theorem or_tab (b : Nat) (hb : b < 64) (x : Nat) (hx : x < 6) (i : Nat) (hi : i < 6) (h : (b ||| 1 <<< x).testBit i = true) : b.testBit i = true ∨ i = x := by
  have z := tab_at (f := fun b x i => !(b ||| 1 <<< x).testBit i || (b.testBit i || decide (i = x))) (by decide +kernel) hb hx hi
  rw [h] at z
  simpa using z
theorem bit_lt {b i : Nat} (hb : b < 64) (h : b.testBit i = true) : i < 6 := by
  by_cases hi : i < 6
  · exact hi
  · have : b < 2 ^ i := Nat.lt_of_lt_of_le hb (show 2 ^ 6 ≤ 2 ^ i from Nat.pow_le_pow_right (by decide) (by omega))
    rw [Nat.testBit_lt_two_pow this] at h
    cases h
theorem drop_bit {r : Rw} {b i : Nat} (hb : b < 64) (hr : r.XOk) (h : (dropX r b).testBit i = true) : b.testBit i = true ∧ ∀ x y s z, r = .put x y s z → i ≠ x := by
  cases r with
  | put x y s z =>
    have hx : x ≤ 5 := hr
    have h' : (b - (b &&& 1 <<< x)).testBit i = true := h
    have hi := bit_lt (Nat.lt_of_le_of_lt (Nat.sub_le _ _) hb) h'
    obtain ⟨h1, h2⟩ := drop_tab b hb x (by omega) i hi h'
    exact ⟨h1, fun x' y' s' z' e => by cases e; exact h2⟩
  | cond y s z t => exact ⟨h, fun x' y' s' z' e => by cases e⟩
  | go t => exact ⟨h, fun x' y' s' z' e => by cases e⟩
  | tell y => exact ⟨h, fun x' y' s' z' e => by cases e⟩
  | skip => exact ⟨h, fun x' y' s' z' e => by cases e⟩
theorem sub_bit {b c i : Nat} (h : b &&& c = b) (hb : b.testBit i = true) : c.testBit i = true := by
  rw [← h, Nat.testBit_and, Bool.and_eq_true] at hb
  exact hb.2
/-! ### a step of both -/
def Agree (b : Nat) (vs ws : List Int) : Prop := ∀ i, b.testBit i = true → vs.getD i 0 = ws.getD i 0
theorem agrees_worth {y : Opd} {b : Nat} {vs ws : List Int} (h : agrees y b = true) (ha : Agree b vs ws) : worth y vs = worth y ws := by
  cases y with
  | num c => rfl
  | name i => exact ha i h
theorem getD_set (vs : List Int) (x i : Nat) (v : Int) : (vs.set x v).getD i 0 = if x = i ∧ x < vs.length then v else vs.getD i 0 := by
  rw [List.getD_eq_getElem?_getD, List.getD_eq_getElem?_getD, List.getElem?_set]
  by_cases e : x = i
  · subst e
    rw [if_pos rfl]
    by_cases hx : x < vs.length
    · rw [if_pos hx, if_pos ⟨rfl, hx⟩]
      rfl
    · rw [if_neg hx, if_neg (fun z => hx z.2), List.getElem?_eq_none (by omega)]
  · rw [if_neg e, if_neg (fun z => e z.1)]
/-- where a row may go, and what it changes -/
theorem act_goes (o : Rw) (k : Nat) (vs : List Int) (h : o.isTell = false) : ∃ a vs', act o k vs = .st a vs' ∧ a ∈ goesOn o k ∧ ∀ i, (∀ x y s z, o = .put x y s z → i ≠ x) → vs'.getD i 0 = vs.getD i 0 := by
  cases o with
  | tell y => cases h
  | put x y s z =>
    refine ⟨_, _, rfl, by simp [goesOn], fun i hi => ?_⟩
    rw [getD_set, if_neg (fun e => hi x y s z rfl e.1.symm)]
  | go t => exact ⟨_, _, rfl, by simp [goesOn], fun _ _ => rfl⟩
  | skip => exact ⟨_, _, rfl, by simp [goesOn], fun _ _ => rfl⟩
  | cond y s z t =>
    show ∃ a vs', (if isSo (worth y vs) s (worth z vs) = true then Tr.st t vs else Tr.st (k + 1) vs) = Tr.st a vs' ∧ a ∈ goesOn (.cond y s z t) k ∧ _
    split
    · exact ⟨_, _, rfl, by simp [goesOn], fun _ _ => rfl⟩
    · exact ⟨_, _, rfl, by simp [goesOn], fun _ _ => rfl⟩
theorem step {p q : Prog} (hp : p.Ok) (hq : q.Ok) {g : Nat × Nat → Option Nat} (hk : Kept p q g) {k j b : Nat} {vs ws : List Int} (hb : g (k, j) = some b) (hl : vs.length = ws.length) (hv : ∀ v ∈ vs, Small v) (hw : ∀ v ∈ ws, Small v) (ha : Agree b vs ws) :
    (k < p.rows.length ↔ j < q.rows.length) ∧ ((∃ o, o.isSt = false ∧ lMoved p k vs = o ∧ lMoved q j ws = o) ∨
    ∃ k' j' vs' ws' b', lMoved p k vs = .st k' vs' ∧ lMoved q j ws = .st j' ws' ∧ g (k', j') = some b' ∧ Agree b' vs' ws') := by
  obtain ⟨h1, h2, h64, fs, hf, hfs⟩ := hk.2 _ _ hb
  rw [moved_row hp hv, moved_row hq hw]
  have nl : ∀ {p : Prog} {k : Nat}, rowAt p k = none → ¬ k < p.rows.length := fun {p k} e h => by
    unfold rowAt at e
    rw [List.getElem?_eq_getElem h] at e
    cases e
  have yl : ∀ {p : Prog} {k : Nat} {o : Rw}, rowAt p k = some o → k < p.rows.length := fun {p k o} e => by
    obtain ⟨_, _, _, h⟩ := rowAt_lt e
    exact h
  rcases follow_cases p q k j b with ⟨hs, h⟩ | ⟨o, u, ho, hu, hn, h⟩
  · have he : endAlike (rowAt p k) (rowAt q j) b = true := by
      by_cases e : endAlike (rowAt p k) (rowAt q j) b = true
      · exact e
      · rw [h, if_neg e] at hf
        cases hf
    cases ho : rowAt p k with
    | none =>
      cases hu : rowAt q j with
      | none => exact ⟨⟨fun z => absurd z (nl ho), fun z => absurd z (nl hu)⟩, .inl ⟨.none, rfl, rfl, rfl⟩⟩
      | some u =>
        rw [ho, hu] at he
        cases he
    | some o =>
      cases hu : rowAt q j with
      | none =>
        rw [ho, hu] at he
        cases o <;> cases he
      | some u =>
        rw [ho, hu] at he
        refine ⟨⟨fun _ => yl hu, fun _ => yl ho⟩, .inl ?_⟩
        cases o <;> cases u <;> first | (cases he; done) | skip
        rename_i y z
        have he' : (decide (y = z) && agrees y b) = true := he
        rw [Bool.and_eq_true] at he'
        have e := of_decide_eq_true he'.1
        subst e
        exact ⟨.told (worth y vs), rfl, rfl, by show Tr.told _ = Tr.told _; rw [agrees_worth he'.2 ha]⟩
  · rw [ho, hu]
    refine ⟨⟨fun _ => yl hu, fun _ => yl ho⟩, .inr ?_⟩
    rw [Bool.or_eq_false_iff] at hn
    by_cases hsc : sameChoice o u b = true
    · rw [h, if_pos hsc] at hf
      cases hf
      have c1 : o.isCond = true := by cases o <;> cases u <;> first | rfl | cases hsc
      have c2 : u.isCond = true := by cases o <;> cases u <;> first | rfl | cases hsc
      obtain ⟨y, s, z, t, rfl⟩ := cond_inv c1
      obtain ⟨y', s', z', t', rfl⟩ := cond_inv c2
      have hsc' : (if (y ≠ y' ∨ s ≠ s' ∨ z ≠ z') then false else (agrees y b && agrees z b)) = true := hsc
      split at hsc'
      · cases hsc'
      rename_i hne
      have e1 : y = y' := by
        by_cases e : y = y'
        · exact e
        · exact absurd (.inl e) hne
      have e2 : s = s' := by
        by_cases e : s = s'
        · exact e
        · exact absurd (.inr (.inl e)) hne
      have e3 : z = z' := by
        by_cases e : z = z'
        · exact e
        · exact absurd (.inr (.inr e)) hne
      subst e1 e2 e3
      rw [Bool.and_eq_true] at hsc'
      have w1 := agrees_worth hsc'.1 ha
      have w2 := agrees_worth hsc'.2 ha
      obtain ⟨b1, g1, s1⟩ := hfs (t, t', b) (by simp [Rw.to])
      obtain ⟨b2, g2, s2⟩ := hfs (k + 1, j + 1, b) (by simp)
      show ∃ k' j' vs' ws' b', (if isSo (worth y vs) s (worth z vs) = true then _ else _) = _ ∧ (if isSo (worth y ws) s (worth z ws) = true then _ else _) = _ ∧ _
      rw [← w1, ← w2]
      split
      · exact ⟨t, t', vs, ws, b1, rfl, rfl, g1, fun i hi => ha i (sub_bit s1 hi)⟩
      · exact ⟨k + 1, j + 1, vs, ws, b2, rfl, rfl, g2, fun i hi => ha i (sub_bit s2 hi)⟩
    · rw [h, if_neg hsc] at hf
      cases hf
      obtain ⟨a, vs', ea, ma, ca⟩ := act_goes o k vs hn.1
      obtain ⟨c, ws', ec, mc, cc⟩ := act_goes u j ws hn.2
      obtain ⟨b', g', s'⟩ := hfs (a, c, bitsBehind o u b) (List.mem_flatMap.mpr ⟨a, ma, List.mem_map.mpr ⟨c, mc, rfl⟩⟩)
      refine ⟨a, c, vs', ws', b', ea, ec, g', fun i hi => ?_⟩
      have hli := sub_bit s' hi
      have hox := rowAt_x hp ho
      have hux := rowAt_x hq hu
      have plain : (dropX u (dropX o b)).testBit i = true → vs'.getD i 0 = ws'.getD i 0 := fun hd => by
        obtain ⟨d1, d2⟩ := drop_bit (Nat.lt_of_le_of_lt (dropX_le _ _) h64) hux hd
        obtain ⟨d3, d4⟩ := drop_bit h64 hox d1
        rw [ca i d4, cc i d2]
        exact ha i d3
      cases o with
      | put x y s z =>
        have e : bitsBehind (.put x y s z) u b = if (decide (Rw.put x y s z = u) && (agrees y b && agrees z b)) = true then b ||| 1 <<< x else dropX u (dropX (.put x y s z) b) := rfl
        by_cases hc : (decide (Rw.put x y s z = u) && (agrees y b && agrees z b)) = true
        · rw [e, if_pos hc] at hli
          rw [Bool.and_eq_true, Bool.and_eq_true] at hc
          have eu := of_decide_eq_true hc.1
          subst eu
          have w1 := agrees_worth hc.2.1 ha
          have w2 := agrees_worth hc.2.2 ha
          have hx : x ≤ 5 := hox
          have ex : vs' = vs.set x (lReckon (worth y vs) s (worth z vs)) := by
            injection ea with _ e
            exact e.symm
          have ey : ws' = ws.set x (lReckon (worth y ws) s (worth z ws)) := by
            injection ec with _ e
            exact e.symm
          have hor : b ||| 1 <<< x < 64 := Nat.or_lt_two_pow (n := 6) h64 (by rw [Nat.one_shiftLeft]; exact Nat.pow_lt_pow_right (by decide) (by omega))
          rw [ex, ey, getD_set, getD_set, ← w1, ← w2, ← hl]
          rcases or_tab b h64 x (by omega) i (bit_lt hor hli) hli with hbi | rfl
          · split
            · rfl
            · exact ha i hbi
          · by_cases hxl : i < vs.length
            · rw [if_pos ⟨rfl, hxl⟩, if_pos ⟨rfl, hxl⟩]
            · rw [if_neg (fun z => hxl z.2), if_neg (fun z => hxl z.2), List.getD_eq_getElem?_getD, List.getD_eq_getElem?_getD, List.getElem?_eq_none (by omega), List.getElem?_eq_none (by omega)]
        · rw [e, if_neg hc] at hli
          exact plain hli
      | cond y s z t => exact plain hli
      | go t => exact plain hli
      | tell y => cases hn.1
      | skip => exact plain hli
/-! ### both trails -/
inductive Al (g : Nat × Nat → Option Nat) : List Tr → List Tr → Prop
  | one (o : Tr) : Al g [o] [o]
  | cons {s t : Tr} {A B : List Tr} : alongAt g s t = true → Al g A B → Al g (s :: A) (t :: B)
theorem al_ok {g : Nat × Nat → Option Nat} : ∀ {A B : List Tr}, Al g A B → A ≠ [] ∧ B ≠ [] ∧ A.length = B.length ∧ A.getLast? = B.getLast? ∧ ((A.dropLast.zip B.dropLast).all fun p => alongAt g p.1 p.2) = true
  | _, _, .one o => ⟨by simp, by simp, rfl, rfl, rfl⟩
  | _, _, .cons (s := s) (t := t) (A := A) (B := B) h a => by
    obtain ⟨h1, h2, h3, h4, h5⟩ := al_ok a
    refine ⟨by simp, by simp, by rw [List.length_cons, List.length_cons, h3], ?_, ?_⟩
    · rw [List.getLast?_cons, List.getLast?_cons, h4]
      cases hB : B.getLast? with
      | none => exact absurd (List.getLast?_eq_none_iff.mp hB) h2
      | some x => rfl
    · rw [List.dropLast_cons_of_ne_nil h1, List.dropLast_cons_of_ne_nil h2, List.zip_cons_cons, List.all_cons, h5, h]
      rfl
theorem al_along {g : Nat × Nat → Option Nat} {A B : List Tr} (h : Al g A B) : lAlong g A B = true := by
  obtain ⟨_, _, h3, h4, h5⟩ := al_ok h
  unfold lAlong
  rw [if_neg (by
    rintro (z | z)
    · exact z h3
    · exact z h4)]
  exact h5
theorem along_st {g : Nat × Nat → Option Nat} {k j b : Nat} {vs ws : List Int} (hb : g (k, j) = some b) (ha : Agree b vs ws) : alongAt g (.st k vs) (.st j ws) = true := by
  show (match g (k, j) with
    | none => false
    | some bits => lAlike vs ws bits) = true
  rw [hb]
  show lAlike vs ws b = true
  unfold lAlike
  rw [List.all_eq_true]
  intro i _
  cases hi : b.testBit i with
  | false => rfl
  | true =>
    rw [ha i hi]
    simp
theorem al_from {p q : Prog} (hp : p.Ok) (hq : q.Ok) (hm : p.many = q.many) {g : Nat × Nat → Option Nat} (hk : Kept p q g) : ∀ (n k j b : Nat) (vs ws : List Int), g (k, j) = some b → Fit p k vs → Fit q j ws → Agree b vs ws → Al g (lTrailFrom p n k vs) (lTrailFrom q n j ws)
  | 0, k, j, b, vs, ws, hb, fv, fw, ha => by
    have hl : vs.length = ws.length := by rw [fv.2.1, fw.2.1, hm]
    obtain ⟨h1, h2⟩ := step hp hq hk hb hl fv.2.2 fw.2.2 ha
    unfold lTrailFrom
    by_cases hkl : k < p.rows.length
    · rw [if_pos hkl, if_pos (h1.mp hkl)]
      exact .one _
    · rw [if_neg hkl, if_neg (fun z => hkl (h1.mpr z))]
      have e1 : lMoved p k vs = .none := by rw [lMoved, List.getElem?_eq_none (by omega)]
      have e2 : lMoved q j ws = .none := by
        have : ¬ j < q.rows.length := fun z => hkl (h1.mpr z)
        rw [lMoved, List.getElem?_eq_none (by omega)]
      rw [e1, e2]
      exact .one _
  | n + 1, k, j, b, vs, ws, hb, fv, fw, ha => by
    have hl : vs.length = ws.length := by rw [fv.2.1, fw.2.1, hm]
    obtain ⟨h1, h2⟩ := step hp hq hk hb hl fv.2.2 fw.2.2 ha
    unfold lTrailFrom
    rcases h2 with ⟨o, ho, e1, e2⟩ | ⟨k', j', vs', ws', b', e1, e2, hb', ha'⟩
    · rw [e1, e2]
      cases o with
      | st k vs => cases ho
      | none => exact .one _
      | told v => exact .one _
      | late => exact .one _
    · have f1 := moved_fit hp fv e1
      have f2 := moved_fit hq fw e2
      rw [e1, e2]
      exact .cons (along_st hb' ha') (al_from hp hq hm hk n k' j' b' vs' ws' hb' f1 f2 ha')
theorem mathKept : MathKept := fun p q hp hq ht hm g hk ins hi hs n => by
  obtain ⟨b, hb⟩ := hk.1
  have f1 := start_fit p hp ins hi hs
  have f2 := start_fit q hq ins (hi.trans ht) hs
  rw [← hm] at f2
  have f2' : Fit q 0 (ins ++ List.replicate (p.many - ins.length) 0) := f2
  unfold lTrail
  dsimp only
  rw [← hm]
  exact al_along (.cons (along_st hb fun _ _ => rfl) (al_from hp hq hm hk n 0 0 b _ _ hb f1 f2' fun _ _ => rfl))
end Fkh
/-! the plain law: the same, the mirrored and the doubled program have a paper -/
namespace Fkh
open PySem L2
def Opd.NOk (m : Nat) : Opd → Prop
  | .name i => i < m
  | .num _ => True
theorem Opd.Ok.nok {m : Nat} {y : Opd} (h : y.Ok m) : y.NOk m := by
  cases y with
  | name i => exact h
  | num c => trivial
def full (m : Nat) : Nat := 2 ^ m - 1
theorem agrees_full {m : Nat} {y : Opd} (h : y.NOk m) : agrees y (full m) = true := by
  cases y with
  | num c => rfl
  | name i =>
    have h' : i < m := h
    show (2 ^ m - 1).testBit i = true
    rw [Nat.testBit_two_pow_sub_one, decide_eq_true h']
theorem or_full {m x : Nat} (hm : m ≤ 5) (hx : x < m) : full m ||| 1 <<< x = full m := by
  have t : ((List.range 6).all fun m => (List.range m).all fun x => decide (2 ^ m - 1 ||| 1 <<< x = 2 ^ m - 1)) = true := by decide +kernel
  have h1 := List.all_eq_true.mp t m (List.mem_range.mpr (by omega))
  have h2 := List.all_eq_true.mp h1 x (List.mem_range.mpr hx)
  exact of_decide_eq_true h2
/-- what is made of a put -/
def PutOk (m : Nat) (r : Rw) : Prop := r = .skip ∨ ∃ x y s z, r = .put x y s z ∧ x < m ∧ y.NOk m ∧ z.NOk m
theorem put4_ok {m x : Nat} {y z : Opd} {s : Sgn} (hx : x < m) (hy : y.NOk m) (hz : z.NOk m) : PutOk m (madePut4 x y s z) := by
  unfold madePut4
  split
  · exact .inl rfl
  · exact .inr ⟨_, _, _, _, rfl, hx, hy, hz⟩
theorem put3_ok {m x : Nat} {y z : Opd} {s : Sgn} (hx : x < m) (hy : y.NOk m) (hz : z.NOk m) : PutOk m (madePut3 x y s z) := by
  unfold madePut3
  split
  · exact .inr ⟨_, _, _, _, rfl, hx, trivial, trivial⟩
  · split
    · exact put4_ok hx hy trivial
    · exact put4_ok hx hy hz
theorem put2_ok {m x : Nat} {y z : Opd} {s : Sgn} (hx : x < m) (hy : y.NOk m) (hz : z.NOk m) : PutOk m (madePut2 x y s z) := by
  unfold madePut2
  split
  · exact put3_ok hx hz hy
  · exact put3_ok hx hy hz
theorem put_ok {m x : Nat} {y z : Opd} {s : Sgn} (hx : x < m) (hy : y.NOk m) (hz : z.NOk m) : PutOk m (madePut x y s z) := by
  unfold madePut
  split
  · exact .inr ⟨_, _, _, _, rfl, hx, trivial, trivial⟩
  · split
    · exact put2_ok hx hy trivial
    · exact put2_ok hx hy hz
/-- what is made of an if, whatever the place it goes to -/
def IfOk (m : Nat) (f : Nat → Rw) : Prop := (∀ t, f t = .go t) ∨ (∀ t, f t = .skip) ∨ ∃ y s z, y.NOk m ∧ z.NOk m ∧ ∀ t, f t = .cond y s z t
theorem if3_ok {m : Nat} {y z : Opd} {s : Cmp} (hy : y.NOk m) (hz : z.NOk m) : IfOk m (madeIf3 y s z) := by
  refine .inr (.inr ?_)
  unfold madeIf3 lessThan
  by_cases h : s = .le
  · by_cases h1 : (z.isNum && decide (z.val < 999999999)) = true
    · exact ⟨y, .lt, .num (z.val + 1), hy, trivial, fun t => by rw [if_pos h, if_pos h1]⟩
    · by_cases h2 : (y.isNum && decide (-1000000000 < y.val)) = true
      · exact ⟨.num (y.val - 1), .lt, z, trivial, hz, fun t => by rw [if_pos h, if_neg h1, if_pos h2]⟩
      · exact ⟨y, .le, z, hy, hz, fun t => by rw [if_pos h, if_neg h1, if_neg h2]⟩
  · exact ⟨y, s, z, hy, hz, fun t => by rw [if_neg h]⟩
theorem if2_ok {m : Nat} {y z : Opd} {s : Cmp} (hy : y.NOk m) (hz : z.NOk m) : IfOk m (madeIf2 y s z) := by
  by_cases h : (decide (y = z) || (y.isNum && z.isNum)) = true
  · by_cases h2 : isSo y.val s z.val = true
    · exact .inl fun t => by unfold madeIf2; rw [if_pos h, if_pos h2]
    · exact .inr (.inl fun t => by unfold madeIf2; rw [if_pos h, if_neg h2])
  · by_cases h2 : ((decide (s = .eq) || decide (s = .ne)) && z.lt y) = true
    · have e : madeIf2 y s z = madeIf3 z s y := by
        funext t
        unfold madeIf2
        rw [if_neg h, if_pos h2]
      rw [e]
      exact if3_ok hz hy
    · have e : madeIf2 y s z = madeIf3 y s z := by
        funext t
        unfold madeIf2
        rw [if_neg h, if_neg h2]
      rw [e]
      exact if3_ok hy hz
theorem if_ok {m : Nat} {y z : Opd} {s : Cmp} (hy : y.NOk m) (hz : z.NOk m) : IfOk m (madeIf y s z) := by
  by_cases h : (decide (s = .gt) || decide (s = .ge)) = true
  · have e : madeIf y s z = madeIf2 z (flip1 s) y := by
      funext t
      unfold madeIf
      rw [if_pos h]
    rw [e]
    exact if2_ok hz hy
  · have e : madeIf y s z = madeIf2 y s z := by
      funext t
      unfold madeIf
      rw [if_neg h]
    rw [e]
    exact if2_ok hy hz
/-! ### rows alike -/
def Like (S : Nat → Nat → Prop) (k j : Nat) : Rw → Rw → Prop
  | .tell y, .tell z => y = z
  | .put x y s z, .put x' y' s' z' => Rw.put x y s z = .put x' y' s' z' ∧ S (k + 1) (j + 1)
  | .skip, .skip => S (k + 1) (j + 1)
  | .go t, .go t' => S t t'
  | .cond y s z t, .cond y' s' z' t' => (y = y' ∧ s = s' ∧ z = z') ∧ S t t' ∧ S (k + 1) (j + 1)
  | _, _ => False
def Sim (p q : Prog) (S : Nat → Nat → Prop) : Prop := ∀ k j, S k j → (p.rows[k]? = none ∧ q.rows[j]? = none) ∨ ∃ o u, p.rows[k]? = some o ∧ q.rows[j]? = some u ∧ Like S k j o u
def Goes (S : Nat → Nat → Prop) (m : Nat) (p q : Prog) (k j : Nat) : Prop := ∃ fs, follow p q k j (full m) = some fs ∧ ∀ f ∈ fs, S f.1 f.2.1 ∧ f.2.2 = full m
theorem goes_prod {S : Nat → Nat → Prop} {m : Nat} {p q : Prog} {k j : Nat} {o u : Rw} (ho : rowAt p k = some o) (hu : rowAt q j = some u) (h1 : o.isTell = false) (h2 : u.isTell = false) (hs : sameChoice o u (full m) = false) (hb : bitsBehind o u (full m) = full m)
    (h : ∀ a ∈ goesOn o k, ∀ c ∈ goesOn u j, S a c) : Goes S m p q k j := by
  rcases follow_cases p q k j (full m) with ⟨hs', _⟩ | ⟨o', u', ho', hu', _, e⟩
  · rw [ho, hu] at hs'
    have z : (o.isTell || u.isTell) = true := hs'
    rw [h1, h2] at z
    cases z
  · rw [ho] at ho'
    rw [hu] at hu'
    cases ho'
    cases hu'
    rw [hs, if_neg (by decide), hb] at e
    refine ⟨_, e, fun f hf => ?_⟩
    rw [List.mem_flatMap] at hf
    obtain ⟨a, ha, hf⟩ := hf
    rw [List.mem_map] at hf
    obtain ⟨c, hc, rfl⟩ := hf
    exact ⟨h a ha c hc, rfl⟩
theorem goes_same {S : Nat → Nat → Prop} {m : Nat} {p q : Prog} {k j t t' : Nat} {y z : Opd} {s : Cmp} (ho : rowAt p k = some (.cond y s z t)) (hu : rowAt q j = some (.cond y s z t')) (hy : y.NOk m) (hz : z.NOk m) (h1 : S t t') (h2 : S (k + 1) (j + 1)) : Goes S m p q k j := by
  have hs : sameChoice (.cond y s z t) (.cond y s z t') (full m) = true := by
    show (if (y ≠ y ∨ s ≠ s ∨ z ≠ z) then false else (agrees y (full m) && agrees z (full m))) = true
    rw [if_neg (by simp), agrees_full hy, agrees_full hz]
    rfl
  rcases follow_cases p q k j (full m) with ⟨hs', _⟩ | ⟨o', u', ho', hu', _, e⟩
  · rw [ho, hu] at hs'
    cases hs'
  · rw [ho] at ho'
    rw [hu] at hu'
    cases ho'
    cases hu'
    rw [if_pos hs] at e
    refine ⟨_, e, fun f hf => ?_⟩
    simp [Rw.to] at hf
    rcases hf with rfl | rfl
    · exact ⟨h1, rfl⟩
    · exact ⟨h2, rfl⟩
theorem bits_plain {o u : Rw} {b : Nat} (ho : o.isPut = false) (hu : u.isPut = false) : bitsBehind o u b = b := by
  cases o <;> cases u <;> first | rfl | (cases ho; done) | (cases hu; done)
theorem same_no {o u : Rw} {b : Nat} (h : o.isCond = false ∨ u.isCond = false) : sameChoice o u b = false := by
  rcases h with h | h <;> cases o <;> cases u <;> first | rfl | cases h
theorem rowAt_some {p : Prog} {k : Nat} {o : Rw} (h : p.rows[k]? = some o) : rowAt p k = some (madeRow o k) := by
  unfold rowAt
  rw [h]
  rfl
theorem sim_goes {p q : Prog} (hp : p.Ok) {S : Nat → Nat → Prop} (hS : Sim p q S) {k j : Nat} (h : S k j) : Goes S p.many p q k j := by
  rcases hS k j h with ⟨h1, h2⟩ | ⟨o, u, h1, h2, hl⟩
  · refine ⟨[], ?_, fun f hf => by cases hf⟩
    rcases follow_cases p q k j (full p.many) with ⟨_, e⟩ | ⟨o', u', ho', _, _, _⟩
    · rw [e]
      unfold rowAt
      rw [h1, h2]
      rfl
    · unfold rowAt at ho'
      rw [h1] at ho'
      cases ho'
  · have ho := rowAt_some h1
    have hu := rowAt_some h2
    have hok := hp.2.2.2 o (List.mem_of_getElem? h1)
    cases o with
    | tell y =>
      cases u <;> first | (cases hl; done) | skip
      rename_i z
      have e : y = z := hl
      subst e
      refine ⟨[], ?_, fun f hf => by cases hf⟩
      rcases follow_cases p q k j (full p.many) with ⟨_, e⟩ | ⟨o', u', ho', _, hn, _⟩
      · rw [e, ho, hu]
        show (if (decide (y = y) && agrees y (full p.many)) = true then _ else _) = _
        rw [agrees_full hok.nok, decide_eq_true rfl]
        rfl
      · rw [ho] at ho'
        cases ho'
        cases hn
    | put x y s z =>
      cases u <;> first | (cases hl; done) | skip
      obtain ⟨e, hn⟩ := hl
      cases e
      have hm := put_ok (m := p.many) (s := s) hok.1 hok.2.1.nok hok.2.2.nok
      rw [show madeRow (.put x y s z) k = madePut x y s z from rfl] at ho
      rw [show madeRow (.put x y s z) j = madePut x y s z from rfl] at hu
      rcases hm with e | ⟨x', y', s', z', e, hx, hy, hz⟩
      · rw [e] at ho hu
        exact goes_prod ho hu rfl rfl rfl rfl fun a ha c hc => by
          simp [goesOn] at ha hc
          rw [ha, hc]
          exact hn
      · rw [e] at ho hu
        refine goes_prod ho hu rfl rfl rfl ?_ fun a ha c hc => by
          simp [goesOn] at ha hc
          rw [ha, hc]
          exact hn
        show (if (decide (Rw.put x' y' s' z' = .put x' y' s' z') && (agrees y' (full p.many) && agrees z' (full p.many))) = true then full p.many ||| 1 <<< x' else _) = _
        rw [agrees_full hy, agrees_full hz, decide_eq_true rfl, if_pos (by rfl)]
        exact or_full hp.1 hx
    | skip =>
      cases u <;> first | (cases hl; done) | skip
      have hn : S (k + 1) (j + 1) := hl
      exact goes_prod ho hu rfl rfl rfl rfl fun a ha c hc => by
        simp [goesOn, madeRow] at ha hc
        rw [ha, hc]
        exact hn
    | go t =>
      cases u <;> first | (cases hl; done) | skip
      rename_i t'
      have hn : S t t' := hl
      have key : ∀ (t k : Nat), (madeRow (.go t) k).isTell = false ∧ (madeRow (.go t) k).isPut = false ∧ (madeRow (.go t) k).isCond = false ∧ goesOn (madeRow (.go t) k) k = [t] := fun t k => by
        show (if t = k + 1 then Rw.skip else Rw.go t).isTell = false ∧ (if t = k + 1 then Rw.skip else Rw.go t).isPut = false ∧ (if t = k + 1 then Rw.skip else Rw.go t).isCond = false ∧ goesOn (if t = k + 1 then Rw.skip else Rw.go t) k = [t]
        split
        · rename_i e
          subst e
          exact ⟨rfl, rfl, rfl, rfl⟩
        · exact ⟨rfl, rfl, rfl, rfl⟩
      obtain ⟨a1, a2, a3, a4⟩ := key t k
      obtain ⟨b1, b2, b3, b4⟩ := key t' j
      refine goes_prod ho hu a1 b1 (same_no (.inl a3)) (bits_plain a2 b2) fun a ha c hc => ?_
      rw [a4] at ha
      rw [b4] at hc
      simp at ha hc
      rw [ha, hc]
      exact hn
    | cond y s z t =>
      cases u <;> first | (cases hl; done) | skip
      obtain ⟨⟨e1, e2, e3⟩, n1, n2⟩ := hl
      subst e1 e2 e3
      rename_i t'
      have hm := if_ok (m := p.many) (s := s) hok.1.nok hok.2.1.nok
      have eo : madeRow (.cond y s z t) k = if t = k + 1 then .skip else madeIf y s z t := rfl
      have eu : madeRow (.cond y s z t') j = if t' = j + 1 then .skip else madeIf y s z t' := rfl
      rw [eo] at ho
      rw [eu] at hu
      have kinds : ∀ (t k : Nat), (madeIf y s z t).isTell = false ∧ (madeIf y s z t).isPut = false ∧ ∀ a ∈ goesOn (madeIf y s z t) k, a = t ∨ a = k + 1 := fun t k => by
        rcases hm with h | h | ⟨y', s', z', _, _, h⟩ <;> rw [h]
        · exact ⟨rfl, rfl, fun a ha => by simp [goesOn] at ha; exact .inl ha⟩
        · exact ⟨rfl, rfl, fun a ha => by simp [goesOn] at ha; exact .inr ha⟩
        · exact ⟨rfl, rfl, fun a ha => by simpa [goesOn] using ha⟩
      by_cases ht : t = k + 1
      · rw [if_pos ht] at ho
        by_cases ht' : t' = j + 1
        · rw [if_pos ht'] at hu
          exact goes_prod ho hu rfl rfl rfl rfl fun a ha c hc => by
            simp [goesOn] at ha hc
            rw [ha, hc]
            exact n2
        · rw [if_neg ht'] at hu
          obtain ⟨k1, k2, k3⟩ := kinds t' j
          refine goes_prod ho hu rfl k1 (same_no (.inl rfl)) (bits_plain rfl k2) fun a ha c hc => ?_
          simp [goesOn] at ha
          rcases k3 c hc with rfl | rfl
          · rw [ha, ← ht]
            exact n1
          · rw [ha]
            exact n2
      · rw [if_neg ht] at ho
        obtain ⟨k1, k2, k3⟩ := kinds t k
        by_cases ht' : t' = j + 1
        · rw [if_pos ht'] at hu
          refine goes_prod ho hu k1 rfl (same_no (.inr rfl)) (bits_plain k2 rfl) fun a ha c hc => ?_
          simp [goesOn] at hc
          rcases k3 a ha with rfl | rfl
          · rw [hc, ← ht']
            exact n1
          · rw [hc]
            exact n2
        · rw [if_neg ht'] at hu
          rcases hm with h | h | ⟨y', s', z', hy, hz, h⟩
          · rw [h] at ho hu
            exact goes_prod ho hu rfl rfl rfl rfl fun a ha c hc => by
              simp [goesOn] at ha hc
              rw [ha, hc]
              exact n1
          · rw [h] at ho hu
            exact goes_prod ho hu rfl rfl rfl rfl fun a ha c hc => by
              simp [goesOn] at ha hc
              rw [ha, hc]
              exact n2
          · rw [h] at ho hu
            exact goes_same ho hu hy hz n1 n2
theorem sim_closed {p q : Prog} (hp : p.Ok) {S : Nat → Nat → Prop} (h0 : S 0 0) (hS : Sim p q S) : Closed p q fun x => S x.1 x.2 := ⟨h0, fun k j h => sim_goes hp hS h⟩
theorem like_turn {S : Nat → Nat → Prop} {k j : Nat} {o u : Rw} (h : Like S k j o u) : Like (fun a b => S b a) j k u o := by
  cases o <;> cases u <;> first | (cases h; done) | exact h | exact h.symm | exact ⟨h.1.symm, h.2⟩ | exact ⟨⟨h.1.1.symm, h.1.2.1.symm, h.1.2.2.symm⟩, h.2⟩
theorem sim_turn {p q : Prog} {S : Nat → Nat → Prop} (h : Sim p q S) : Sim q p fun a b => S b a := fun k j hs => by
  rcases h j k hs with ⟨h1, h2⟩ | ⟨o, u, h1, h2, hl⟩
  · exact .inl ⟨h2, h1⟩
  · exact .inr ⟨u, o, h2, h1, like_turn hl⟩
/-! ### the same -/
def Dg (n : Nat) (k j : Nat) : Prop := k = j ∧ k ≤ n
theorem like_self {m n k : Nat} {o : Rw} (hk : k < n) (ho : o.Ok m n) : Like (Dg n) k k o o := by
  cases o with
  | tell y => exact rfl
  | put x y s z => exact ⟨rfl, rfl, hk⟩
  | skip => exact ⟨rfl, hk⟩
  | go t => exact ⟨rfl, ho⟩
  | cond y s z t => exact ⟨⟨rfl, rfl, rfl⟩, ⟨rfl, ho.2.2⟩, ⟨rfl, hk⟩⟩
theorem sim_self {p q : Prog} (hp : p.Ok) (h : p.rows = q.rows) : Sim p q (Dg p.rows.length) := fun k j ⟨e, hk⟩ => by
  subst e
  rw [← h]
  by_cases hl : k < p.rows.length
  · have e := List.getElem?_eq_getElem hl
    exact .inr ⟨_, _, e, e, like_self hl (hp.2.2.2 _ (List.getElem_mem hl))⟩
  · exact .inl ⟨List.getElem?_eq_none (by omega), List.getElem?_eq_none (by omega)⟩
/-- follow looks at made rows alone -/
theorem follow_rows {p p' q q' : Prog} (h1 : ∀ k, rowAt p k = rowAt p' k) (h2 : ∀ k, rowAt q k = rowAt q' k) (k j b : Nat) : follow p q k j b = follow p' q' k j b := by
  unfold follow
  rw [h1, h2]
theorem closed_rows {p p' q q' : Prog} (h1 : ∀ k, rowAt p k = rowAt p' k) (h2 : ∀ k, rowAt q k = rowAt q' k) (hm : p.many = p'.many) {S : Nat × Nat → Prop} (h : Closed p q S) : Closed p' q' S := by
  refine ⟨h.1, fun k j hs => ?_⟩
  rw [← hm, ← follow_rows h1 h2]
  exact h.2 k j hs
/-! ### mirrored -/
theorem lt_ii (i j : Nat) : (Opd.name i).lt (.name j) = decide ((i : Int) < j) := by
  show ltO (Str.ofString "name") (i : Int) (Str.ofString "name") (j : Int) = _
  unfold ltO
  exact if_pos rfl
theorem lt_cc (i j : Int) : (Opd.num i).lt (.num j) = decide (i < j) := by
  show ltO (Str.ofString "number") i (Str.ofString "number") j = _
  unfold ltO
  exact if_pos rfl
theorem lt_ic (i : Nat) (j : Int) : (Opd.name i).lt (.num j) = true := by
  show ltO (Str.ofString "name") (i : Int) (Str.ofString "number") j = _
  unfold ltO
  rw [if_neg ne_nn]
  decide +kernel
theorem lt_ci (i : Nat) (j : Int) : (Opd.num j).lt (.name i) = false := by
  show ltO (Str.ofString "number") j (Str.ofString "name") (i : Int) = _
  unfold ltO
  rw [if_neg ne_nn.symm]
  decide +kernel
theorem lt_asym {y z : Opd} (h : y.lt z = true) : z.lt y = false := by
  cases y with
  | name i =>
    cases z with
    | name j =>
      rw [lt_ii] at h ⊢
      have := of_decide_eq_true h
      exact decide_eq_false (by omega)
    | num c => exact lt_ci _ _
  | num c =>
    cases z with
    | name j =>
      rw [lt_ci] at h
      cases h
    | num d =>
      rw [lt_cc] at h ⊢
      have := of_decide_eq_true h
      exact decide_eq_false (by omega)
theorem lt_tot {y z : Opd} (h1 : y.lt z = false) (h2 : z.lt y = false) : y = z := by
  cases y with
  | name i =>
    cases z with
    | name j =>
      rw [lt_ii] at h1 h2
      have a1 := of_decide_eq_false h1
      have a2 := of_decide_eq_false h2
      congr 1
      omega
    | num c =>
      rw [lt_ic] at h1
      cases h1
  | num c =>
    cases z with
    | name j =>
      rw [lt_ic] at h2
      cases h2
    | num d =>
      rw [lt_cc] at h1 h2
      have a1 := of_decide_eq_false h1
      have a2 := of_decide_eq_false h2
      congr 1
      omega
theorem put2_mir {x : Nat} {y z : Opd} {s : Sgn} (hs : s = .add ∨ s = .mul) : madePut2 x z s y = madePut2 x y s z := by
  have hb : (decide (s = .add) || decide (s = .mul)) = true := by rcases hs with rfl | rfl <;> rfl
  unfold madePut2
  rw [hb, Bool.true_and, Bool.true_and]
  cases h1 : y.lt z with
  | true =>
    rw [lt_asym h1]
    rfl
  | false =>
    cases h2 : z.lt y with
    | true => rfl
    | false => rw [lt_tot h1 h2]
theorem put_mir {x : Nat} {y z : Opd} {s : Sgn} (hs : s = .add ∨ s = .mul) : madePut x z s y = madePut x y s z := by
  unfold madePut
  by_cases h : (y.isNum && z.isNum) = true
  · rw [if_pos h, if_pos (by rw [Bool.and_comm]; exact h)]
    have e : reckon z.val s y.val = reckon y.val s z.val := by
      rcases hs with rfl | rfl
      · show around _ = around _
        rw [Int.add_comm]
      · show around _ = around _
        rw [Int.mul_comm]
    rw [e]
  · have hn : ∀ w : Opd, ¬ (decide (s = .sub) && w.isNum) = true := fun w => by rcases hs with rfl | rfl <;> simp
    rw [if_neg h, if_neg (by rw [Bool.and_comm]; exact h), if_neg (hn _), if_neg (hn _), put2_mir hs]
theorem if2_mir {y z : Opd} {s : Cmp} {t : Nat} (hs : s = .eq ∨ s = .ne) : madeIf2 z s y t = madeIf2 y s z t := by
  have hb : (decide (s = .eq) || decide (s = .ne)) = true := by rcases hs with rfl | rfl <;> rfl
  have hd : (decide (z = y) || (z.isNum && y.isNum)) = (decide (y = z) || (y.isNum && z.isNum)) := by
    rw [Bool.and_comm]
    congr 2
    exact propext ⟨Eq.symm, Eq.symm⟩
  have hi : isSo z.val s y.val = isSo y.val s z.val := by
    rcases hs with rfl | rfl
    · show decide _ = decide _
      congr 1
      exact propext ⟨Eq.symm, Eq.symm⟩
    · show (!decide _) = (!decide _)
      congr 2
      exact propext ⟨Eq.symm, Eq.symm⟩
  unfold madeIf2
  rw [hd, hi, hb, Bool.true_and, Bool.true_and]
  split
  · rfl
  · cases h1 : y.lt z with
    | true =>
      rw [lt_asym h1]
      rfl
    | false =>
      cases h2 : z.lt y with
      | true => rfl
      | false => rw [lt_tot h1 h2]
theorem if_mir {y z : Opd} {s : Cmp} {t : Nat} : madeIf z (flip2 s) y t = madeIf y s z t := by
  cases s with
  | lt => rfl
  | le => rfl
  | gt => rfl
  | ge => rfl
  | eq => exact if2_mir (.inl rfl)
  | ne => exact if2_mir (.inr rfl)
theorem made_mir (o : Rw) (k : Nat) : madeRow (lMirrored o) k = madeRow o k := by
  cases o with
  | put x y s z =>
    cases s with
    | add => exact put_mir (.inl rfl)
    | mul => exact put_mir (.inr rfl)
    | sub => rfl
    | div => rfl
    | mod => rfl
  | cond y s z t =>
    show (if t = k + 1 then Rw.skip else madeIf z (flip2 s) y t) = (if t = k + 1 then Rw.skip else madeIf y s z t)
    rw [if_mir]
  | go t => rfl
  | tell y => rfl
  | skip => rfl
/-! ### doubled -/
def Db (n : Nat) (k j : Nat) : Prop := (k < n ∧ (j = k ∨ j = k + n)) ∨ (k = n ∧ j = 2 * n)
theorem doubled_at (rows : List Rw) (c : Int) {copy k : Nat} (hc : copy < 2) (hk : k < rows.length) : (lDoubled rows c)[copy * rows.length + k]? = some (lJumps rows[k] (lPlaces (lFar c k copy rows.length) rows.length)) := by
  have e : lDoubled rows c = ((List.range rows.length).map fun k => lJumps (rows.getD k .skip) (lPlaces (lFar c k 0 rows.length) rows.length)) ++ ((List.range rows.length).map fun k => lJumps (rows.getD k .skip) (lPlaces (lFar c k 1 rows.length) rows.length)) := by
    unfold lDoubled
    rw [show List.range 2 = [0, 1] from rfl, List.flatMap_cons, List.flatMap_cons, List.flatMap_nil, List.append_nil]
  have hg : rows.getD k .skip = rows[k] := by
    rw [List.getD_eq_getElem?_getD, List.getElem?_eq_getElem hk]
    rfl
  rw [e]
  rcases (show copy = 0 ∨ copy = 1 by omega) with rfl | rfl
  · rw [Nat.zero_mul, Nat.zero_add, List.getElem?_append_left (by rw [List.length_map, List.length_range]; exact hk), List.getElem?_map, List.getElem?_range hk]
    show some (lJumps (rows.getD k .skip) _) = _
    rw [hg]
  · rw [Nat.one_mul, List.getElem?_append_right (by rw [List.length_map, List.length_range]; omega), List.length_map, List.length_range, Nat.add_sub_cancel_left, List.getElem?_map, List.getElem?_range hk]
    show some (lJumps (rows.getD k .skip) _) = _
    rw [hg]
theorem far_two (c : Int) (k copy n : Nat) : lFar c k copy n = 0 ∨ lFar c k copy n = n := by
  unfold lFar
  rcases (show ((c % 1000003 + 1) * ((k : Int) * k + 13 * copy + 5) % 10007 % 2).toNat = 0 ∨ ((c % 1000003 + 1) * ((k : Int) * k + 13 * copy + 5) % 10007 % 2).toNat = 1 by omega) with e | e
  · rw [e, Nat.zero_mul]
    exact .inl rfl
  · rw [e, Nat.one_mul]
    exact .inr rfl
theorem places_db {far n t : Nat} (hf : far = 0 ∨ far = n) (ht : t ≤ n) : Db n t ((lPlaces far n).getD t 0) := by
  unfold lPlaces
  by_cases h : t < n
  · have e : ((List.range n).map (fun t => t + far) ++ [2 * n]).getD t 0 = t + far := by
      rw [List.getD_eq_getElem?_getD, List.getElem?_append_left (by rw [List.length_map, List.length_range]; exact h), List.getElem?_map, List.getElem?_range h]
      rfl
    rw [e]
    refine .inl ⟨h, ?_⟩
    rcases hf with rfl | rfl
    · exact .inl rfl
    · exact .inr rfl
  · have et : t = n := by omega
    subst et
    have e : ((List.range t).map (fun t => t + far) ++ [2 * t]).getD t 0 = 2 * t := by
      rw [List.getD_eq_getElem?_getD, List.getElem?_append_right (by rw [List.length_map, List.length_range]; exact Nat.le_refl _), List.length_map, List.length_range, Nat.sub_self]
      rfl
    rw [e]
    exact .inr ⟨rfl, rfl⟩
theorem like_db {m n k j far : Nat} {o : Rw} (hf : far = 0 ∨ far = n) (ho : o.Ok m n) (hn : isEnd o = false → Db n (k + 1) (j + 1)) : Like (Db n) k j o (lJumps o (lPlaces far n)) := by
  cases o with
  | tell y => exact rfl
  | put x y s z => exact ⟨rfl, hn rfl⟩
  | skip => exact hn rfl
  | go t => exact places_db hf ho
  | cond y s z t => exact ⟨⟨rfl, rfl, rfl⟩, places_db hf ho.2.2, hn rfl⟩
theorem sim_db {p q : Prog} {c : Int} (hp : p.Ok) (hq : q.rows = lDoubled p.rows c) (hend : 0 < p.rows.length → isEnd (p.rows.getD (p.rows.length - 1) .skip) = true) : Sim p q (Db p.rows.length) := fun k j h => by
  rw [hq]
  rcases h with ⟨hk, hj⟩ | ⟨rfl, rfl⟩
  · right
    have hok := hp.2.2.2 _ (List.getElem_mem hk)
    have hlast : isEnd p.rows[k] = false → k + 1 < p.rows.length := fun e => by
      by_cases hl : k + 1 < p.rows.length
      · exact hl
      · have ek : k = p.rows.length - 1 := by omega
        have h2 := hend (by omega)
        rw [List.getD_eq_getElem?_getD, ← ek, List.getElem?_eq_getElem hk] at h2
        have h3 : isEnd p.rows[k] = true := h2
        rw [e] at h3
        cases h3
    rcases hj with rfl | rfl
    · refine ⟨_, _, List.getElem?_eq_getElem hk, ?_, like_db (far_two c j 0 p.rows.length) hok fun e => .inl ⟨hlast e, .inl rfl⟩⟩
      have z := doubled_at p.rows c (copy := 0) (by decide) hk
      rw [Nat.zero_mul, Nat.zero_add] at z
      exact z
    · refine ⟨_, _, List.getElem?_eq_getElem hk, ?_, like_db (far_two c k 1 _) hok fun e => .inl ⟨hlast e, .inr (by omega)⟩⟩
      have z := doubled_at p.rows c (copy := 1) (by decide) hk
      rw [Nat.one_mul, Nat.add_comm] at z
      exact z
  · exact .inl ⟨List.getElem?_eq_none (Nat.le_refl _), List.getElem?_eq_none (by rw [lDoubled_len]; exact Nat.le_refl _)⟩
theorem rows_end (ns : List Int) (many way : Nat) (hw : way = 5 ∨ way = 6) (h0 : 0 < (lRows ns many way).length) : isEnd ((lRows ns many way).getD ((lRows ns many way).length - 1) .skip) = true := by
  rw [lRows_len] at h0 ⊢
  rw [lRows_eq]
  have hl := lRaw_len ns many way
  split
  · rw [List.getD_eq_getElem?_getD, List.getElem?_set_self (by omega)]
    rfl
  · rename_i h
    cases e : isEnd ((lRaw ns many way).getD (lSize ns way - 1) .skip) with
    | true => rfl
    | false => exact absurd ⟨⟨hw, h0⟩, e⟩ h
/-! ### the three ways -/
theorem lO3_plain (ns : List Int) (h : lWay ns = 0 ∨ lWay ns = 1 ∨ lWay ns = 5) : lOthers ns = lO2 ns := by
  rw [lOthers_eq, if_neg (by omega)]
  unfold lO3
  rw [if_neg (by omega)]
theorem both_ways {ns : List Int} (h1 : ∃ S, Closed (lOne ns) (lOther ns) S) (h2 : ∃ S, Closed (lOther ns) (lOne ns) S) : ∃ S, Closed (lTwo ns).1 (lTwo ns).2 S := by
  rw [lTwo_eq]
  split
  · exact h2
  · exact h1
theorem mathNone : MathNone := fun ns hno => by
  have key : ¬ (lWay ns = 0 ∨ lWay ns = 1 ∨ lWay ns = 5) := fun hw => hno (by
    have e3 := lO3_plain ns hw
    have ok1 := lOne_ok ns
    have ok2 := lOther_ok ns
    by_cases h5 : lWay ns = 5
    · have er : (lOther ns).rows = lDoubled (lOne ns).rows (cellAt ns 2) := by
        show lOthers ns = _
        rw [e3]
        unfold lO2
        rw [if_pos (.inl h5)]
        rfl
      have hend : 0 < (lOne ns).rows.length → isEnd ((lOne ns).rows.getD ((lOne ns).rows.length - 1) .skip) = true := fun h => rows_end ns _ _ (.inl h5) h
      have s := sim_db ok1 er hend
      have z0 : Db (lOne ns).rows.length 0 0 := by
        by_cases hn : 0 < (lOne ns).rows.length
        · exact .inl ⟨hn, .inl rfl⟩
        · exact .inr ⟨by omega, by omega⟩
      exact both_ways ⟨_, sim_closed ok1 z0 s⟩ ⟨_, sim_closed ok2 (S := fun a b => Db _ b a) z0 (sim_turn s)⟩
    · have e2 : lOthers ns = lO1 ns := by
        rw [e3]
        unfold lO2
        rw [if_neg (by omega)]
      -- the other one's made rows are the first one's
      have er : ∀ k, rowAt (lOther ns) k = rowAt (lOne ns) k := fun k => by
        unfold rowAt
        show ((lOthers ns)[k]?).map _ = ((lRows ns (lMany ns) (lWay ns))[k]?).map _
        rw [e2]
        unfold lO1
        split
        · rw [List.getElem?_map]
          cases (lRows ns (lMany ns) (lWay ns))[k]? with
          | none => rfl
          | some o => exact congrArg some (made_mir o k)
        · rfl
      have c := sim_closed ok1 (S := Dg (lOne ns).rows.length) ⟨rfl, Nat.zero_le _⟩ (sim_self ok1 rfl)
      exact both_ways ⟨_, closed_rows (fun _ => rfl) (fun k => (er k).symm) rfl c⟩ ⟨_, closed_rows (fun k => (er k).symm) (fun _ => rfl) rfl c⟩)
  omega
end Fkh
set_option maxHeartbeats 0
namespace Fkh
open PySem PySem.Spec PyProof.Rows L2
/-! ### the head -/
def mkD (x : Str) (i : Nat) : He.DefD := ⟨(x, none), x, x, defArgs (top i), defBody (top i), defScope (top i), [], []⟩
def fn : List He.DefD := [mkD "around" 2, mkD "reckon" 3, mkD "is_so" 4, mkD "comes_to_nought" 8, mkD "made_put" 9, mkD "less_than" 10, mkD "made_if" 11, mkD "made_row" 12, mkD "row_at" 14, mkD "agrees" 15, mkD "is_stop" 16,
  mkD "end_alike" 17, mkD "same_choice" 18, mkD "goes_on" 19, mkD "bits_behind" 20, mkD "follow" 21, mkD "taken_in" 23, mkD "found_paper" 24, mkD "_law_cell_at" 26, mkD "_law_small" 27, mkD "_law_operand" 28, mkD "_law_row" 29,
  mkD "_law_jumps" 30, mkD "_law_mirrored" 31, mkD "_law_doubled" 32, mkD "_law_rows" 33, mkD "_law_two" 34, mkD "_law_reckon" 35, mkD "_law_so" 36, mkD "_law_worth" 37, mkD "_law_moved" 38, mkD "_law_trail" 39, mkD "_law_alike" 40,
  mkD "_law_along" 41, mkD "law" 42]
def fa : List He.Fa := [.int "REACH" 1000000000, .free "len", .free "range", .free "list", .free "tuple", .free "zip", .free "sorted", .free "isinstance", .free "divmod", .free "str", .glo "NOUGHT", .glo "ONE"] ++ fn.map fun d => .glo d.name
def ex (K : PySem.W.Frag) : Bool := He.tupB K "NOUGHT" [.str "number", .int 0] && He.tupB K "ONE" [.str "number", .int 1]
abbrev R : PySem.W.OpenRow := PySem.W.OpenLaw.row PySem.Challenge.rw_fakehunt_k43_whole_papers_hold
abbrev hk : PySem.W.Hook := He.hookX 4 fa fn [] [] ex
def ob (s : PySem.W.SharedT) : He.AlX := He.obsX 4 fa fn [] [] ex (HandSHeadRun.getT s)
theorem ob_eq (s : PySem.W.SharedT) : ob s = hk.obs s.abs := He.obsX_eq (HandSHeadRun.getT_eq s)
def names : List Str := ["REACH", "NOUGHT", "ONE", "around", "reckon", "is_so", "comes_to_nought", "made_put", "less_than", "made_if", "made_row", "row_at", "agrees", "is_stop", "end_alike", "same_choice", "goes_on", "bits_behind", "follow", "taken_in", "found_paper"]
def names2 : List Str := ["_law_cell_at", "_law_small", "_law_operand", "_law_row", "_law_jumps", "_law_mirrored", "_law_doubled", "_law_rows", "_law_two", "_law_reckon", "_law_so", "_law_worth", "_law_moved", "_law_trail", "_law_alike", "_law_along"]
theorem run (w : World) : HandSHeadRun.RunEq R (PySem.W.view R.prog [42]) hk ob 3000 (names ++ names2) w := by
  intro os
  kernel_rfl
/-! ### all defs together -/
theorem law_df {P : Program} {w : World} {K : Fg} {mg : Str → Option Value} {base : Heap} {aN aO : Addr} {tR : Tok} (G : Gs K mg aN aO tR) (D : ∀ (x : Str) (i : Nat), mkD x i ∈ fn → ∃ f fd, mg x = some (.ref f) ∧ FunP K x (top i) f fd)
    {fL : Addr} {fd : FuncData} (DL : FunP K "law" (top 42) fL fd) : FnOk P w K mg base CX0 8 fL fd ["_law_script"] (spF K FLaw) := by
  have hm : ∀ {d : He.DefD} (n : Nat), fn[n]? = some d → d ∈ fn := fun n h => List.mem_of_getElem? h
  have dAround := dfAround (P := P) (w := w) (base := base) G (D "around" 2 (hm 0 rfl))
  have dReckon := dfReckon (P := P) (w := w) (base := base) G dAround (D "reckon" 3 (hm 1 rfl))
  have dIsSo := dfIsSo (P := P) (w := w) (base := base) G (D "is_so" 4 (hm 2 rfl))
  have dNought := dfNought (P := P) (w := w) (base := base) G (D "comes_to_nought" 8 (hm 3 rfl))
  have dMadePut := dfMadePut (P := P) (w := w) (base := base) G dAround dReckon dNought (D "made_put" 9 (hm 4 rfl))
  have dLessThan := dfLessThan (P := P) (w := w) (base := base) G (D "less_than" 10 (hm 5 rfl))
  have dMadeIf := dfMadeIf (P := P) (w := w) (base := base) G dIsSo dLessThan (D "made_if" 11 (hm 6 rfl))
  have dMadeRow := dfMadeRow (P := P) (w := w) (base := base) G dMadePut dMadeIf (D "made_row" 12 (hm 7 rfl))
  have dRowAt := dfRowAt (P := P) (w := w) (base := base) G dMadeRow (D "row_at" 14 (hm 8 rfl))
  have dAgrees := dfAgrees (P := P) (w := w) (base := base) G (D "agrees" 15 (hm 9 rfl))
  have dIsStop := dfIsStop (P := P) (w := w) (base := base) G (D "is_stop" 16 (hm 10 rfl))
  have dEndAlike := dfEndAlike (P := P) (w := w) (base := base) G dAgrees (D "end_alike" 17 (hm 11 rfl))
  have dSameChoice := dfSameChoice (P := P) (w := w) (base := base) G dAgrees (D "same_choice" 18 (hm 12 rfl))
  have dGoesOn := dfGoesOn (P := P) (w := w) (base := base) G (D "goes_on" 19 (hm 13 rfl))
  have dBitsBehind := dfBitsBehind (P := P) (w := w) (base := base) G dAgrees (D "bits_behind" 20 (hm 14 rfl))
  have dFollow := dfFollow (P := P) (w := w) (base := base) G dRowAt dIsStop dEndAlike dSameChoice dBitsBehind dGoesOn (D "follow" 21 (hm 15 rfl))
  have dTakenIn := dfTakenIn (P := P) (w := w) (base := base) G (D "taken_in" 23 (hm 16 rfl))
  have dFoundPaper := dfFoundPaper (P := P) (w := w) (base := base) G dTakenIn dFollow (D "found_paper" 24 (hm 17 rfl))
  have dLCell := dfLCell (P := P) (w := w) (base := base) G (D "_law_cell_at" 26 (hm 18 rfl))
  have dLSmall := dfLSmall (P := P) (w := w) (base := base) G (D "_law_small" 27 (hm 19 rfl))
  have dLOperand := dfLOperand (P := P) (w := w) (base := base) G dLSmall (D "_law_operand" 28 (hm 20 rfl))
  have dLRow := dfLRow (P := P) (w := w) (base := base) G dLOperand (D "_law_row" 29 (hm 21 rfl))
  have dLJumps := dfLJumps (P := P) (w := w) (base := base) G (D "_law_jumps" 30 (hm 22 rfl))
  have dLMirrored := dfLMirrored (P := P) (w := w) (base := base) G (D "_law_mirrored" 31 (hm 23 rfl))
  have dLDoubled := dfLDoubled (P := P) (w := w) (base := base) G dLJumps (D "_law_doubled" 32 (hm 24 rfl))
  have dLRows := dfLRows (P := P) (w := w) (base := base) G dLCell dLRow (D "_law_rows" 33 (hm 25 rfl))
  have dLTwo := dfLTwo (P := P) (w := w) (base := base) G dLCell dLRow dLDoubled dLMirrored dLRows (D "_law_two" 34 (hm 26 rfl))
  have dLReckon := dfLReckon (P := P) (w := w) (base := base) G (D "_law_reckon" 35 (hm 27 rfl))
  have dLSo := dfLSo (P := P) (w := w) (base := base) G (D "_law_so" 36 (hm 28 rfl))
  have dLWorth := dfLWorth (P := P) (w := w) (base := base) G (D "_law_worth" 37 (hm 29 rfl))
  have dLMoved := dfLMoved (P := P) (w := w) (base := base) G dLSo dLWorth dLReckon (D "_law_moved" 38 (hm 30 rfl))
  have dLTrail := dfLTrail (P := P) (w := w) (base := base) G dLMoved (D "_law_trail" 39 (hm 31 rfl))
  have dLAlike := dfLAlike (P := P) (w := w) (base := base) G (D "_law_alike" 40 (hm 32 rfl))
  have dLAlong := dfLAlong (P := P) (w := w) (base := base) G dLAlike (D "_law_along" 41 (hm 33 rfl))
  have dLaw := dfLaw (P := P) (w := w) (base := base) mathNone mathKept G dLAlong dLTrail dLSmall dLCell dFoundPaper dLTwo DL
  exact dLaw
theorem ints_td {K : Fg} {H : Hp} : ∀ ns : List Int, Tds K H (ns.map V.int) (ns.map PyData.int)
  | [] => .nil
  | n :: ns => .cons (.int n) (ints_td ns)
theorem law_in {K : Fg} {H : Hp} {a : Addr} {ns : List Int} {E : XK} (h : SqL K H a (ns.map V.int)) : spF K FLaw [.ref a] H (fun v _ => v = .bl true) E :=
  ⟨[.l (ns.map PyData.int)], .d (.bool true), .cons (e := .l (ns.map PyData.int)) ⟨a, ns.map V.int, rfl, h, ints_td ns⟩ rfl .nil, ⟨ns, rfl, rfl⟩, fun v H' _ hv => Td.bl_inv hv⟩
theorem facts {P : Program} {w : World} {K : Fg} {h : Heap} {mg : Str → Option Value} {f : Addr} (X : K.In h) (G : h.Ns mainGlobals mg) (hfa : mg ("law" : Str) = some (.ref f)) (c : He.SaysX fa fn [] [] ex w h K) :
    ∃ fd : FuncData, (∀ (s : Shared) (v : Value), BindsTo s fd ⟨[v], []⟩ [("_law_script", v)]) ∧ ∀ base : Heap, K.In base → base.Ns mainGlobals mg → FnOk P w K mg base CX0 8 f fd ["_law_script"] (spF K FLaw) := by
  have cd : He.SaysD fa fn K := c.t.d
  obtain ⟨tR, hR⟩ := He.int_ok X G (cd.fact 0 (f := .int "REACH" 1000000000) rfl)
  obtain ⟨x1, x2⟩ := Bool.and_eq_true_iff.mp c.more
  have G' : Gs K mg (He.ga K "NOUGHT") (He.ga K "ONE") tR := {
    reach := hR
    nought := He.glo_ok X G (cd.fact 10 (f := .glo "NOUGHT") rfl)
    one := He.glo_ok X G (cd.fact 11 (f := .glo "ONE") rfl)
    tN := fun H => .tup (He.tupB_ok x1 H) (.cons (.str _) (.cons (.int _) .nil))
    tO := fun H => .tup (He.tupB_ok x2 H) (.cons (.str _) (.cons (.int _) .nil))
    len := He.free_ok X G (cd.fact 1 (f := .free "len") rfl)
    range := He.free_ok X G (cd.fact 2 (f := .free "range") rfl)
    list := He.free_ok X G (cd.fact 3 (f := .free "list") rfl)
    tuple := He.free_ok X G (cd.fact 4 (f := .free "tuple") rfl)
    zip := He.free_ok X G (cd.fact 5 (f := .free "zip") rfl)
    sorted := He.free_ok X G (cd.fact 6 (f := .free "sorted") rfl)
    isi := He.free_ok X G (cd.fact 7 (f := .free "isinstance") rfl)
    divmod := He.free_ok X G (cd.fact 8 (f := .free "divmod") rfl)
    str := He.free_ok X G (cd.fact 9 (f := .free "str") rfl) }
  have D : ∀ (x : Str) (i : Nat), mkD x i ∈ fn → ∃ f fd, mg x = some (.ref f) ∧ FunP K x (top i) f fd := fun x i hx => by
    obtain ⟨fd, F⟩ := He.SaysD.defs cd hx
    have hg : He.Fa.glo x ∈ fa := List.mem_append_right _ (List.mem_map.mpr ⟨mkD x i, hx, rfl⟩)
    exact ⟨_, fd, He.glo_ok X G (He.SaysD.facts cd hg), F⟩
  obtain ⟨fd, F⟩ := cd.def_ 34 (d := mkD "law" 42) rfl
  have e := hfa.symm.trans (He.glo_ok X G (cd.fact 46 (f := .glo "law") rfl))
  cases e
  have b := FunD.bindsA (ps := ["_law_script"]) F fun _ _ _ _ _ _ us hl => match us, hl with | [_], _ => rfl
  exact ⟨fd, fun s v => b s [v] rfl, fun base _ _ => law_df G' D F⟩
end Fkh
open PySem PySem.W PySem.Calls PyProof.Rows
theorem PySem.Challenge.cw_fakehunt_k43_whole_papers_hold_holds : PySem.Challenge.rw_fakehunt_k43_whole_papers_hold.Holds := by
  w_on; o_law
  refine HandSHeadRun.head_any (r := Fkh.R) (q := view Fkh.R.prog [42]) (H := Fkh.hk) (ob := Fkh.ob) (M := 3000) (loose := Fkh.names ++ Fkh.names2) (d := HandSHeadRun.topDef Fkh.R.prog 42) (kwd := []) Fkh.ob_eq
    (by kernel_rfl) (fun s => by kernel_rfl) Fkh.run (by kernel_rfl) (by kernel_rfl) (by kernel_rfl) (by rfl) (by first | assumption | decide +kernel) (by decide +kernel) ⟨rfl, rfl, rfl, rfl, rfl, by decide +kernel⟩ ?hw ?hc
  case hw => w_witness2
  case hc =>
    refine L2.walk_ofE (l := PySem.Challenge.rw_fakehunt_k43_whole_papers_hold) (n := 63) (k := 8) (x := "_law_script") (CX := L2.CX0) rfl (by decide) (by kernel_rfl) ⟨rfl, by decide, by decide⟩ ?F (fun _ _ _ _ z => z)
    intro w mg fa h Y G hmg0
    obtain ⟨K, KX, c⟩ := Y
    have hmg : mg ("law" : PySem.Str) = some (.ref fa) := by
      have e : (HandSHeadRun.topDef Fkh.R.prog 42).name = ("law" : PySem.Str) := by kernel_rfl
      rw [← e]
      exact hmg0
    obtain ⟨fd, hb, hF⟩ := Fkh.facts (P := (PySem.Challenge.rw_fakehunt_k43_whole_papers_hold).prog) (w := w) KX G hmg c
    exact ⟨K, fd, Fkh.spF K Fkh.FLaw, KX, hb, fun H a ns hl _ hS => Fkh.law_in hS, hF⟩
