import PyProof.Rows.All
import Wide.All
import OpenK.AllK
import Wide.FinOn
import KE.DataEq
import HandS.ForMost
import HandS.Exc
import HandS.ExcOwn
import HandS.WordsExc
import HandS.IsInst
import HandS.TupAny
import HandS.Style
import HandS.SortRule
import KE.KSortTupAny
import HandS.Iter
import HandS.ExcIs
import KE.KAsSuite
import HandS.HotCalls
import PyProof.StrOps2
import HandS.Text
import HandS.SuiteRaise
import PySem.Challenge.RW_voiceweave_k13_texts
set_option Elab.async false
set_option linter.all false
set_option maxRecDepth 100000
set_option maxHeartbeats 4000000
/-! The pure reading: data as PyData, states as lists of slots, what each construct computes as a partial function of the state. -/
namespace VW
open PySem PySem.Spec PyProof.Rows L2

/-! ### what a value is, in a heap, without the addresses L -/
/-- a tuple of the module's own -/
def KTup (K : PySem.W.Frag) (a : Addr) (xs : List V) : Prop :=
  ∃ (o : Obj) (its : Array Value) (n : Nat), K.lookup a = some o ∧ o.cls = .type "tuple" ∧ o.data = .seq its n ∧ its.size ≤ sizeLine ∧ Vals xs its.toList
def KLst (K : PySem.W.Frag) (a : Addr) (xs : List V) : Prop :=
  ∃ (o : Obj) (its : Array Value) (n : Nat), K.lookup a = some o ∧ o.cls = .type "list" ∧ o.dict = none ∧ o.data = .seq its n ∧ its.size ≤ sizeLine ∧ Vals xs its.toList
abbrev Own := Addr → Prop
mutual
inductive Is (K : PySem.W.Frag) (L : Own) (H : Hp) : V → PyData → Prop
  | non : Is K L H .non .none
  | bl (b : Bool) : Is K L H (.bl b) (.bool b)
  | int (i : Int) : Is K L H (.int i) (.int i)
  | str (x : Str) : Is K L H (.str x) (.str x)
  | lst {a : Addr} {xs : List V} {ds : List PyData} : ¬ L a → H a = some (.lst xs) → IsAll K L H xs ds → Is K L H (.ref a) (.list ds)
  | tup {a : Addr} {xs : List V} {ds : List PyData} : ((¬ L a ∧ H a = some (.tup xs)) ∨ (ds.length ≠ 3 ∧ KTup K a xs)) → IsAll K L H xs ds → Is K L H (.ref a) (.tuple ds)
  | dct {a : Addr} {kvs : List (Key × V)} : ¬ L a → H a = some (.dK kvs) → Is K L H (.ref a) (.dict [])
  | tdc {a : Addr} {kvs : List (List Key × V)} {ds : List PyData} (ns : List (Int × Int × Int)) : ¬ L a → H a = some (.dT kvs) → ds = ns.map (fun n => PyData.tuple [.int n.1, .int n.2.1, .int n.2.2]) → (∀ k, (valV kvs k).isSome = true ↔ ∃ n ∈ ns, k = [Sum.inl n.1, Sum.inl n.2.1, Sum.inl n.2.2]) → Is K L H (.ref a) (.dict [(.int 7, .list ds)])
  | emp {a : Addr} : ¬ L a → H a = some (.dK []) → Is K L H (.ref a) (.dict [(.bool true, .none)])
  | scr {a : Addr} {ns : List Int} : ((¬ L a ∧ ∃ o, H a = some (.frz o (.lst (ns.map V.int)))) ∨ KLst K a (ns.map V.int)) → Is K L H (.ref a) (.dict [(.none, .list (ns.map PyData.int))])
inductive IsAll (K : PySem.W.Frag) (L : Own) (H : Hp) : List V → List PyData → Prop
  | nil : IsAll K L H [] []
  | cons {v : V} {vs : List V} {d : PyData} {ds : List PyData} : Is K L H v d → IsAll K L H vs ds → IsAll K L H (v :: vs) (d :: ds)
end
section
variable {K : PySem.W.Frag} {L L' : Own} {H H' : Hp}
mutual
theorem Is.mv (hh : ∀ a o, ¬ L a → H a = some o → ¬ L' a ∧ H' a = some o) : ∀ {d : PyData} {v : V}, Is K L H v d → Is K L' H' v d
  | .none, _, h => by cases h; exact .non
  | .bool b, _, h => by cases h; exact .bl b
  | .int i, _, h => by cases h; exact .int i
  | .str x, _, h => by cases h; exact .str x
  | .list ds, _, h => by
    cases h with
    | lst h1 h2 h3 => exact .lst (hh _ _ h1 h2).1 (hh _ _ h1 h2).2 (IsAll.mv hh h3)
  | .tuple ds, _, h => by
    cases h with
    | tup h1 h3 =>
      refine .tup ?_ (IsAll.mv hh h3)
      rcases h1 with ⟨h1, h2⟩ | h1
      · exact .inl (hh _ _ h1 h2)
      · exact .inr h1
  | .dict _, _, h => by
    cases h with
    | dct h1 h2 => exact .dct (hh _ _ h1 h2).1 (hh _ _ h1 h2).2
    | emp h1 h2 => exact .emp (hh _ _ h1 h2).1 (hh _ _ h1 h2).2
    | tdc ns h1 h2 h3 h4 => exact .tdc ns (hh _ _ h1 h2).1 (hh _ _ h1 h2).2 h3 h4
    | scr h1 =>
      refine .scr ?_
      rcases h1 with ⟨h1, o, h2⟩ | h1
      · exact .inl ⟨(hh _ _ h1 h2).1, o, (hh _ _ h1 h2).2⟩
      · exact .inr h1
theorem IsAll.mv (hh : ∀ a o, ¬ L a → H a = some o → ¬ L' a ∧ H' a = some o) : ∀ {ds : List PyData} {vs : List V}, IsAll K L H vs ds → IsAll K L' H' vs ds
  | [], _, h => by cases h; exact .nil
  | d :: ds, _, h => by
    cases h with
    | cons h1 h2 => exact .cons (Is.mv hh h1) (IsAll.mv hh h2)
end
theorem Is.same (e : Same H H') {d : PyData} {v : V} (h : Is K L H v d) : Is K L H' v d := h.mv fun a o n q => ⟨n, e a o q⟩
theorem IsAll.same (e : Same H H') {ds : List PyData} {vs : List V} (h : IsAll K L H vs ds) : IsAll K L H' vs ds := h.mv fun a o n q => ⟨n, e a o q⟩
theorem Is.anti (s : ∀ a, L' a → L a) {d : PyData} {v : V} (h : Is K L H v d) : Is K L' H v d := h.mv fun a o n q => ⟨fun z => n (s a z), q⟩
theorem IsAll.anti (s : ∀ a, L' a → L a) {ds : List PyData} {vs : List V} (h : IsAll K L H vs ds) : IsAll K L' H vs ds := h.mv fun a o n q => ⟨fun z => n (s a z), q⟩
theorem IsAll.len : ∀ {ds : List PyData} {vs : List V}, IsAll K L H vs ds → vs.length = ds.length
  | [], _, h => by cases h; rfl
  | d :: ds, _, h => by
    cases h with
    | cons _ h2 => rw [List.length_cons, List.length_cons, h2.len]
theorem IsAll.append : ∀ {ds es : List PyData} {vs ws : List V}, IsAll K L H vs ds → IsAll K L H ws es → IsAll K L H (vs ++ ws) (ds ++ es)
  | [], _, _, _, h, h' => by cases h; exact h'
  | d :: ds, _, _, _, h, h' => by
    cases h with
    | cons h1 h2 => exact .cons h1 (h2.append h')
theorem IsAll.get : ∀ {ds : List PyData} {vs : List V} {i : Nat} {d : PyData}, IsAll K L H vs ds → ds[i]? = some d → ∃ v, vs[i]? = some v ∧ Is K L H v d
  | [], _, _, _, _, e => by simp at e
  | d :: ds, _, 0, _, h, e => by
    cases h with
    | cons h1 h2 =>
      have e' : d = _ := Option.some.inj e
      subst e'
      exact ⟨_, rfl, h1⟩
  | d :: ds, _, i + 1, _, h, e => by
    cases h with
    | cons h1 h2 =>
      obtain ⟨v, a, b⟩ := IsAll.get (i := i) h2 (by simpa using e)
      exact ⟨v, by simpa using a, b⟩
theorem IsAll.get' {ds : List PyData} {vs : List V} {i : Nat} {v : V} (h : IsAll K L H vs ds) (e : vs[i]? = some v) : ∃ d, ds[i]? = some d ∧ Is K L H v d := by
  have hi : i < vs.length := (List.getElem?_eq_some_iff.mp e).1
  rw [h.len] at hi
  obtain ⟨w, e1, e2⟩ := h.get (List.getElem?_eq_getElem hi)
  rw [e] at e1
  cases e1
  exact ⟨_, List.getElem?_eq_getElem hi, e2⟩
theorem IsAll.take : ∀ {ds : List PyData} {vs : List V} (n : Nat), IsAll K L H vs ds → IsAll K L H (vs.take n) (ds.take n)
  | _, _, 0, _ => .nil
  | [], _, _ + 1, h => by cases h; exact .nil
  | d :: ds, _, n + 1, h => by
    cases h with
    | cons h1 h2 => exact .cons h1 (h2.take n)
theorem IsAll.drop : ∀ {ds : List PyData} {vs : List V} (n : Nat), IsAll K L H vs ds → IsAll K L H (vs.drop n) (ds.drop n)
  | _, _, 0, h => h
  | [], _, _ + 1, h => by cases h; exact .nil
  | d :: ds, _, n + 1, h => by
    cases h with
    | cons h1 h2 => exact h2.drop n
theorem IsAll.set {d : PyData} {v : V} (r : Is K L H v d) : ∀ {ds : List PyData} {vs : List V} (n : Nat), IsAll K L H vs ds → IsAll K L H (vs.set n v) (ds.set n d)
  | [], _, _, h => by cases h; exact .nil
  | e :: ds, _, 0, h => by
    cases h with
    | cons h1 h2 => exact .cons r h2
  | e :: ds, _, n + 1, h => by
    cases h with
    | cons h1 h2 => exact .cons h1 (h2.set r n)
theorem IsAll.reverse : ∀ {ds : List PyData} {vs : List V}, IsAll K L H vs ds → IsAll K L H vs.reverse ds.reverse
  | [], _, h => by cases h; exact .nil
  | d :: ds, _, h => by
    cases h with
    | cons h1 h2 =>
      rw [List.reverse_cons, List.reverse_cons]
      exact h2.reverse.append (.cons h1 .nil)
theorem IsAll.rep {ds : List PyData} {vs : List V} (h : IsAll K L H vs ds) : ∀ k : Nat, IsAll K L H (List.replicate k vs).flatten (List.replicate k ds).flatten
  | 0 => .nil
  | k + 1 => by
    rw [List.replicate_succ, List.replicate_succ, List.flatten_cons, List.flatten_cons]
    exact h.append (h.rep k)
theorem IsAll.ints : ∀ ns : List Int, IsAll K L H (ns.map V.int) (ns.map PyData.int)
  | [] => .nil
  | n :: ns => .cons (.int n) (IsAll.ints ns)
end

/-! ### results -/
inductive Ex where
  | weave | piece | number | theme | entry | range | uneven | clash | text
  deriving DecidableEq
inductive Rs (α : Type) where
  | ok (a : α)
  | er (n : Ex)
abbrev M (α : Type) := Option (Rs α)
def ret {α : Type} (a : α) : M α := some (.ok a)
def bnd {α β : Type} : M α → (α → M β) → M β
  | some (.ok a), k => k a
  | some (.er n), _ => some (.er n)
  | none, _ => none
@[simp] theorem bnd_ok {α β : Type} (a : α) (k : α → M β) : bnd (some (.ok a)) k = k a := rfl
@[simp] theorem bnd_ret {α β : Type} (a : α) (k : α → M β) : bnd (ret a) k = k a := rfl
@[simp] theorem bnd_er {α β : Type} (n : Ex) (k : α → M β) : bnd (some (.er n)) k = some (.er n) := rfl
@[simp] theorem bnd_none {α β : Type} (k : α → M β) : bnd none k = none := rfl
theorem bnd_ok_inv {α β : Type} {m : M α} {k : α → M β} {b : β} (h : bnd m k = some (.ok b)) : ∃ a, m = some (.ok a) ∧ k a = some (.ok b) := by
  cases m with
  | none => cases h
  | some r =>
    cases r with
    | ok a => exact ⟨a, rfl, h⟩
    | er n => cases h
theorem bnd_er_inv {α β : Type} {m : M α} {k : α → M β} {n : Ex} (h : bnd m k = some (.er n)) : m = some (.er n) ∨ ∃ a, m = some (.ok a) ∧ k a = some (.er n) := by
  cases m with
  | none => cases h
  | some r =>
    cases r with
    | ok a => exact .inr ⟨a, rfl, h⟩
    | er m =>
      have e : m = n := by
        have h' : (some (Rs.er m) : M β) = some (.er n) := h
        injection h' with h'
        injection h'
      exact .inl (by rw [e])

/-! ### slots -/
inductive Sl where
  /-- plain data -/
  | imm (d : PyData)
  /-- a list that this frame alone holds: its items -/
  | own (ds : List PyData)
  /-- a list of lists that this frame alone holds -/
  | deep (dss : List (List PyData))
abbrev Rho := List (Option Sl)

/-- lists at the addresses ls, holding dss -/
inductive Rows (K : PySem.W.Frag) (L : Own) (H : Hp) : List Addr → List (List PyData) → Prop
  | nil : Rows K L H [] []
  | cons {a : Addr} {as : List Addr} {xs : List V} {ds : List PyData} {dss : List (List PyData)} : H a = some (.lst xs) → IsAll K L H xs ds → Rows K L H as dss → Rows K L H (a :: as) (ds :: dss)
def SlIs (K : PySem.W.Frag) (L : Own) (H : Hp) (as : List Addr) (v : V) : Sl → Prop
  | .imm d => as = [] ∧ Is K L H v d
  | .own ds => ∃ (l : Addr) (xs : List V), as = [l] ∧ v = .ref l ∧ H l = some (.lst xs) ∧ IsAll K L H xs ds
  | .deep dss => ∃ (l : Addr) (ls : List Addr), as = l :: ls ∧ (l :: ls).Nodup ∧ v = .ref l ∧ H l = some (.lst (ls.map V.ref)) ∧ Rows K L H ls dss
/-- the addresses that this frame holds alone, slot by slot; L0 those of the callers -/
abbrev Al := Nat → List Addr
def Lof (L0 : Own) (α : Al) : Own := fun a => L0 a ∨ ∃ i, a ∈ α i
structure Env (K : PySem.W.Frag) (Hb : Hp) (L0 : Own) (α : Al) (ρ : Rho) (σ : L2.St) (H : Hp) : Prop where
  same : Same Hb H
  dom : ∀ a, Lof L0 α a → H a ≠ none
  new : ∀ i a, a ∈ α i → Hb a = none ∧ ¬ L0 a
  disj : ∀ i j a, a ∈ α i → a ∈ α j → i = j
  len : ρ.length = σ.length
  sl : ∀ (i : Nat) s, ρ[i]? = some (some s) → ∃ v, σ[i]? = some (some v) ∧ SlIs K (Lof L0 α) H (α i) v s
  no : ∀ (i : Nat), (∀ s, ρ[i]? ≠ some (some s)) → α i = []
/-- what may have happened between two states -/
def Kp (L : Own) (H : Hp) (L' : Own) (H' : Hp) : Prop := (∀ a o, ¬ L a → H a = some o → H' a = some o) ∧ ∀ a, L' a → L a ∨ H a = none
theorem Kp.refl (L : Own) (H : Hp) : Kp L H L H := ⟨fun _ _ _ h => h, fun _ h => .inl h⟩
theorem Kp.of_same {L : Own} {H H' : Hp} (e : Same H H') : Kp L H L H' := ⟨fun a o _ h => e a o h, fun _ h => .inl h⟩
theorem Kp.trans {L L1 L2 : Own} {H H1 H2 : Hp} (a : Kp L H L1 H1) (b : Kp L1 H1 L2 H2) : Kp L H L2 H2 := by
  refine ⟨fun x o n e => b.1 x o (fun z => ?_) (a.1 x o n e), fun x h => ?_⟩
  · rcases a.2 x z with q | q
    · exact n q
    · rw [e] at q; cases q
  · rcases b.2 x h with q | q
    · exact a.2 x q
    · by_cases hl : L x
      · exact .inl hl
      · right
        cases e : H x with
        | none => rfl
        | some o => rw [a.1 x o hl e] at q; cases q
theorem Kp.is {K : PySem.W.Frag} {L L' : Own} {H H' : Hp} (k : Kp L H L' H') {v : V} {d : PyData} (h : Is K L H v d) : Is K L' H' v d :=
  h.mv fun a o n e => ⟨fun z => (k.2 a z).elim n (fun q => by rw [e] at q; cases q), k.1 a o n e⟩
theorem Kp.all {K : PySem.W.Frag} {L L' : Own} {H H' : Hp} (k : Kp L H L' H') {vs : List V} {ds : List PyData} (h : IsAll K L H vs ds) : IsAll K L' H' vs ds :=
  h.mv fun a o n e => ⟨fun z => (k.2 a z).elim n (fun q => by rw [e] at q; cases q), k.1 a o n e⟩
theorem Rows.same {K : PySem.W.Frag} {L : Own} {H H' : Hp} (e : Same H H') : ∀ {as : List Addr} {dss : List (List PyData)}, Rows K L H as dss → Rows K L H' as dss
  | _, _, .nil => .nil
  | _, _, .cons h1 h2 h3 => .cons (e _ _ h1) (h2.same e) (Rows.same e h3)
theorem SlIs.same {K : PySem.W.Frag} {L : Own} {H H' : Hp} (e : Same H H') {as : List Addr} {v : V} {s : Sl} (h : SlIs K L H as v s) : SlIs K L H' as v s := by
  cases s with
  | imm d => exact ⟨h.1, h.2.same e⟩
  | own ds =>
    obtain ⟨l, xs, h1, h2, h3, h4⟩ := h
    exact ⟨l, xs, h1, h2, e _ _ h3, h4.same e⟩
  | deep dss =>
    obtain ⟨l, ls, h1, h2, h3, h4, h5⟩ := h
    exact ⟨l, ls, h1, h2, h3, e _ _ h4, h5.same e⟩
section
variable {K : PySem.W.Frag} {Hb : Hp} {L0 : Own} {α : Al} {ρ : Rho} {σ : L2.St} {H H' : Hp}
theorem Env.mono (E : Env K Hb L0 α ρ σ H) (e : Same H H') : Env K Hb L0 α ρ σ H' :=
  ⟨E.same.trans e, fun a h => by
      cases q : H a with
      | none => exact absurd q (E.dom a h)
      | some o => rw [e a o q]; exact Option.some_ne_none o,
    E.new, E.disj, E.len, fun i s h => let ⟨v, a, b⟩ := E.sl i s h; ⟨v, a, b.same e⟩, E.no⟩
theorem Env.imm (E : Env K Hb L0 α ρ σ H) {i : Nat} {d : PyData} (h : ρ[i]? = some (some (.imm d))) : ∃ v, σ[i]? = some (some v) ∧ Is K (Lof L0 α) H v d :=
  let ⟨v, a, b⟩ := E.sl i _ h; ⟨v, a, b.2⟩
end
end VW
namespace VW
open PySem PySem.Spec PyProof.Rows L2

/-! ### slots stored -/
def ups (α : Al) (i : Nat) (as : List Addr) : Al := fun j => if j = i then as else α j
theorem ups_same {α : Al} {i : Nat} {as : List Addr} : ups α i as i = as := by unfold ups; rw [if_pos rfl]
theorem ups_ne {α : Al} {i j : Nat} {as : List Addr} (h : j ≠ i) : ups α i as j = α j := by unfold ups; rw [if_neg h]
theorem Rows.mv {K : PySem.W.Frag} {L L' : Own} {H H' : Hp} (hh : ∀ a o, ¬ L a → H a = some o → ¬ L' a ∧ H' a = some o) : ∀ {as : List Addr} {dss : List (List PyData)}, (∀ a ∈ as, ∀ o, H a = some o → H' a = some o) → Rows K L H as dss → Rows K L' H' as dss
  | _, _, _, .nil => .nil
  | _, _, k, .cons h1 h2 h3 => .cons (k _ List.mem_cons_self _ h1) (h2.mv hh) (Rows.mv hh (fun a m => k a (List.mem_cons_of_mem _ m)) h3)
theorem SlIs.mv {K : PySem.W.Frag} {L L' : Own} {H H' : Hp} (hh : ∀ a o, ¬ L a → H a = some o → ¬ L' a ∧ H' a = some o) {as : List Addr} (k : ∀ a ∈ as, ∀ o, H a = some o → H' a = some o) {v : V} {s : Sl} (h : SlIs K L H as v s) : SlIs K L' H' as v s := by
  cases s with
  | imm d => exact ⟨h.1, h.2.mv hh⟩
  | own ds =>
    obtain ⟨l, xs, h1, h2, h3, h4⟩ := h
    subst h1
    exact ⟨l, xs, rfl, h2, k l (List.mem_singleton.mpr rfl) _ h3, h4.mv hh⟩
  | deep dss =>
    obtain ⟨l, ls, h1, h2, h3, h4, h5⟩ := h
    subst h1
    exact ⟨l, ls, rfl, h2, h3, k l List.mem_cons_self _ h4, h5.mv hh fun a m => k a (List.mem_cons_of_mem _ m)⟩
theorem set_get {α : Type} {l : List α} {i j : Nat} {x y : α} (h : (l.set i x)[j]? = some y) : (j = i ∧ y = x ∧ i < l.length) ∨ (j ≠ i ∧ l[j]? = some y) := by
  by_cases e : j = i
  · subst e
    by_cases hl : j < l.length
    · rw [List.getElem?_set_self hl] at h
      cases h
      exact .inl ⟨rfl, rfl, hl⟩
    · rw [List.getElem?_eq_none (by rw [List.length_set]; omega)] at h
      cases h
  · rw [List.getElem?_set_ne (Ne.symm e)] at h
    exact .inr ⟨e, h⟩
section
variable {K : PySem.W.Frag} {Hb : Hp} {L0 : Own} {α : Al} {ρ : Rho} {σ : L2.St} {H H' : Hp}
/-- a slot gets new holdings -/
theorem Env.put (E : Env K Hb L0 α ρ σ H) {i : Nat} {as : List Addr} {v : V} {s : Sl} (e : Same H H')
    (hn : ∀ a ∈ as, H a = none ∨ a ∈ α i) (hd : ∀ a ∈ as, H' a ≠ none) (hv : SlIs K (Lof L0 (ups α i as)) H' as v s) :
    Env K Hb L0 (if i < ρ.length then ups α i as else α) (ρ.set i (some s)) (σ.set i (some v)) H' := by
  by_cases hi : i < ρ.length
  · rw [if_pos hi]
    have nw : ∀ a ∈ as, Hb a = none ∧ ¬ L0 a := fun a m => by
      rcases hn a m with q | q
      · refine ⟨?_, fun z => E.dom a (.inl z) q⟩
        cases r : Hb a with
        | none => rfl
        | some o => rw [E.same a o r] at q; cases q
      · exact E.new i a q
    have hL : ∀ a, Lof L0 (ups α i as) a → Lof L0 α a ∨ a ∈ as := fun a h => by
      rcases h with h | ⟨j, h⟩
      · exact .inl (.inl h)
      · by_cases hj : j = i
        · subst hj
          rw [ups_same] at h
          exact .inr h
        · rw [ups_ne hj] at h
          exact .inl (.inr ⟨j, h⟩)
    refine ⟨E.same.trans e, fun a h => ?_, fun j a h => ?_, fun j k a h1 h2 => ?_, by rw [List.length_set, List.length_set]; exact E.len, fun j t h => ?_, fun j h => ?_⟩
    · rcases hL a h with h | h
      · exact (E.mono e).dom a h
      · exact hd a h
    · by_cases hj : j = i
      · subst hj
        rw [ups_same] at h
        exact nw a h
      · rw [ups_ne hj] at h
        exact E.new j a h
    · have key : ∀ j, j ≠ i → a ∈ α j → a ∈ as → False := fun j hj m1 m2 => by
        rcases hn a m2 with q | q
        · exact E.dom a (.inr ⟨j, m1⟩) q
        · exact hj (E.disj j i a m1 q)
      by_cases hj : j = i
      · by_cases hk : k = i
        · rw [hj, hk]
        · rw [hj, ups_same] at h1
          rw [ups_ne hk] at h2
          exact (key k hk h2 h1).elim
      · by_cases hk : k = i
        · rw [hk, ups_same] at h2
          rw [ups_ne hj] at h1
          exact (key j hj h1 h2).elim
        · rw [ups_ne hj] at h1
          rw [ups_ne hk] at h2
          exact E.disj j k a h1 h2
    · rcases set_get h with ⟨rfl, q, _⟩ | ⟨hj, q⟩
      · cases q
        refine ⟨v, List.getElem?_set_self (by rw [← E.len]; exact hi), ?_⟩
        rw [ups_same]
        exact hv
      · obtain ⟨w, h1, h2⟩ := E.sl j t q
        refine ⟨w, by rw [List.getElem?_set_ne (Ne.symm hj)]; exact h1, ?_⟩
        rw [ups_ne hj]
        refine h2.mv (fun a o n q => ⟨fun z => ?_, e a o q⟩) fun a _ o q => e a o q
        rcases hL a z with z | z
        · exact n z
        · rcases hn a z with r | r
          · rw [q] at r; cases r
          · exact n (.inr ⟨i, r⟩)
    · by_cases hj : j = i
      · exact absurd (List.getElem?_set_self hi) (hj ▸ h s)
      · rw [ups_ne hj]
        refine E.no j fun t q => h t ?_
        rw [List.getElem?_set_ne (Ne.symm hj)]
        exact q
  · rw [if_neg hi, List.set_eq_of_length_le (by omega), List.set_eq_of_length_le (by rw [← E.len]; omega)]
    exact E.mono e
theorem Lof.ups_sub {i : Nat} {as : List Addr} {a : Addr} (h : Lof L0 (ups α i as) a) : Lof L0 α a ∨ a ∈ as := by
  rcases h with h | ⟨j, h⟩
  · exact .inl (.inl h)
  · by_cases hj : j = i
    · subst hj
      rw [ups_same] at h
      exact .inr h
    · rw [ups_ne hj] at h
      exact .inl (.inr ⟨j, h⟩)
theorem Lof.ups_nil {i : Nat} {a : Addr} (h : Lof L0 (ups α i []) a) : Lof L0 α a := by
  rcases Lof.ups_sub h with q | q
  · exact q
  · cases q
theorem Env.kput {i : Nat} {as : List Addr} (e : Same H H') (hn : ∀ a ∈ as, H a = none ∨ a ∈ α i) : Kp (Lof L0 α) H (Lof L0 (if i < ρ.length then ups α i as else α)) H' := by
  refine ⟨fun a o _ q => e a o q, fun a h => ?_⟩
  split at h
  · rcases Lof.ups_sub h with h | h
    · exact .inl h
    · rcases hn a h with q | q
      · exact .inr q
      · exact .inl (.inr ⟨i, q⟩)
  · exact .inl h
theorem Env.setImm (E : Env K Hb L0 α ρ σ H) (i : Nat) {v : V} {d : PyData} (h : Is K (Lof L0 α) H v d) :
    Env K Hb L0 (if i < ρ.length then ups α i [] else α) (ρ.set i (some (.imm d))) (σ.set i (some v)) H :=
  E.put (Same.refl H) (fun a m => nomatch m) (fun a m => nomatch m) ⟨rfl, h.anti fun a z => Lof.ups_nil z⟩
theorem Env.kImm {i : Nat} : Kp (Lof L0 α) H (Lof L0 (if i < ρ.length then ups α i [] else α)) H := Env.kput (Same.refl H) (fun a m => nomatch m)
/-- own, deep data read as plain data: the frame gives up its hold -/
def thaw : Sl → Option PyData
  | .imm d => some d
  | .own ds => some (.list ds)
  | .deep dss => some (.list (dss.map PyData.list))
theorem Rows.frz {K : PySem.W.Frag} {L : Own} {H : Hp} : ∀ {as : List Addr} {dss : List (List PyData)}, (∀ a ∈ as, ¬ L a) → Rows K L H as dss → IsAll K L H (as.map V.ref) (dss.map PyData.list)
  | _, _, _, .nil => .nil
  | _, _, n, .cons h1 h2 h3 => .cons (.lst (n _ List.mem_cons_self) h1 h2) (Rows.frz (fun a m => n a (List.mem_cons_of_mem _ m)) h3)
theorem Rows.anti {K : PySem.W.Frag} {L L' : Own} {H : Hp} (s : ∀ a, L' a → L a) {as : List Addr} {dss : List (List PyData)} (h : Rows K L H as dss) : Rows K L' H as dss :=
  h.mv (fun a o n q => ⟨fun z => n (s a z), q⟩) fun _ _ _ q => q
theorem SlIs.thaw {L L' : Own} {as : List Addr} {v : V} {s : Sl} {d : PyData} (s1 : ∀ a, L' a → L a) (s2 : ∀ a ∈ as, ¬ L' a) (h : SlIs K L H as v s) (e : thaw s = some d) : Is K L' H v d := by
  cases s with
  | imm d' =>
    cases e
    exact h.2.anti s1
  | own ds =>
    cases e
    obtain ⟨l, xs, h1, h2, h3, h4⟩ := h
    subst h1 h2
    exact .lst (s2 l (List.mem_singleton.mpr rfl)) h3 (h4.anti s1)
  | deep dss =>
    cases e
    obtain ⟨l, ls, h1, h2, h3, h4, h5⟩ := h
    subst h1 h3
    exact .lst (s2 l List.mem_cons_self) h4 ((h5.anti s1).frz fun a m => s2 a (List.mem_cons_of_mem _ m))
/-- slot i as plain data -/
def frz (i : Nat) (ρ : Rho) : Rho := match ρ[i]? with
  | some (some s) => match thaw s with
    | some d => ρ.set i (some (.imm d))
    | none => ρ
  | _ => ρ
theorem Env.frz (E : Env K Hb L0 α ρ σ H) (i : Nat) : ∃ α', Env K Hb L0 α' (frz i ρ) σ H ∧ ∀ a, Lof L0 α' a → Lof L0 α a := by
  unfold VW.frz
  cases e : ρ[i]? with
  | none => exact ⟨α, E, fun _ h => h⟩
  | some t =>
    cases t with
    | none => exact ⟨α, E, fun _ h => h⟩
    | some s =>
      cases e2 : thaw s with
      | none =>
        show ∃ α', Env K Hb L0 α' (match thaw s with | some d => ρ.set i (some (.imm d)) | none => ρ) σ H ∧ _
        rw [e2]
        exact ⟨α, E, fun _ h => h⟩
      | some d =>
        show ∃ α', Env K Hb L0 α' (match thaw s with | some d => ρ.set i (some (.imm d)) | none => ρ) σ H ∧ _
        rw [e2]
        obtain ⟨v, h1, h2⟩ := E.sl i s e
        have hi : i < ρ.length := (List.getElem?_eq_some_iff.mp e).1
        have q := E.put (i := i) (as := []) (v := v) (s := .imm d) (Same.refl H) (fun a m => nomatch m) (fun a m => nomatch m)
          ⟨rfl, h2.thaw (fun a z => Lof.ups_nil z) (fun a m z => by
            rcases z with z | ⟨j, z⟩
            · exact (E.new i a m).2 z
            · by_cases hj : j = i
              · subst hj
                rw [ups_same] at z
                cases z
              · rw [ups_ne hj] at z
                exact hj (E.disj j i a z m)) e2⟩
        rw [if_pos hi] at q
        have es : σ.set i (some v) = σ := by
          apply List.ext_getElem?
          intro j
          by_cases hj : i = j
          · subst hj
            rw [List.getElem?_set_self (by rw [← E.len]; exact hi), h1]
          · rw [List.getElem?_set_ne hj]
        rw [es] at q
        exact ⟨_, q, fun a z => Lof.ups_nil z⟩
end
end VW
namespace VW
open PySem PySem.Spec PyProof.Rows L2

/-! ### what an expression computes -/
section
variable (K : PySem.W.Frag) (cl : Ex → Addr) (W : WX)
def PostE (L : Own) (σ : L2.St) (H : Hp) (m : M PyData) (Q : VK) : Prop :=
  (∀ d v H', m = some (.ok d) → Same H H' → Is K L H' v d → Q v H') ∧ (∀ n H', m = some (.er n) → Same H H' → W (.ref (cl n)) none σ H')
def DenE (te : TE) (f : Rho → M PyData) : Prop := ∀ {Hb L0 α ρ σ H}, Env K Hb L0 α ρ σ H → f ρ ≠ none → ∀ Q : VK, PostE K cl W (Lof L0 α) σ H (f ρ) Q → te σ H Q
/-- a new list, held by nobody -/
def PostF (L : Own) (σ : L2.St) (H : Hp) (m : M (List PyData)) (Q : VK) : Prop :=
  (∀ ds p xs H', m = some (.ok ds) → H p = none → Same H H' → H' p = some (.lst xs) → IsAll K (fun a => L a ∨ a = p) H' xs ds → Q (.ref p) H') ∧ (∀ n H', m = some (.er n) → Same H H' → W (.ref (cl n)) none σ H')
def DenF (te : TE) (f : Rho → M (List PyData)) : Prop := ∀ {Hb L0 α ρ σ H}, Env K Hb L0 α ρ σ H → f ρ ≠ none → ∀ Q : VK, PostF K cl W (Lof L0 α) σ H (f ρ) Q → te σ H Q
def PostT (σ : L2.St) (H : Hp) (m : M Bool) (Q : Bool → Hp → Prop) : Prop :=
  (∀ b H', m = some (.ok b) → Same H H' → Q b H') ∧ (∀ n H', m = some (.er n) → Same H H' → W (.ref (cl n)) none σ H')
def DenT (tt : TT) (f : Rho → M Bool) : Prop := ∀ {Hb L0 α ρ σ H}, Env K Hb L0 α ρ σ H → f ρ ≠ none → ∀ Q : Bool → Hp → Prop, PostT cl W σ H (f ρ) Q → tt σ H Q
def PostA (L : Own) (σ : L2.St) (H : Hp) (m : M (List PyData)) (Q : List V → Hp → Prop) : Prop :=
  (∀ ds vs H', m = some (.ok ds) → Same H H' → IsAll K L H' vs ds → Q vs H') ∧ (∀ n H', m = some (.er n) → Same H H' → W (.ref (cl n)) none σ H')
def DenA (ta : TA) (f : Rho → M (List PyData)) : Prop := ∀ {Hb L0 α ρ σ H}, Env K Hb L0 α ρ σ H → f ρ ≠ none → ∀ Q : List V → Hp → Prop, PostA K cl W (Lof L0 α) σ H (f ρ) Q → ta σ H Q
end
theorem bnd_ne {α β : Type} {m : M α} {k : α → M β} (h : bnd m k ≠ none) : m ≠ none := fun z => h (by rw [z]; rfl)
theorem bnd_at {α β : Type} {m : M α} {k : α → M β} {a : α} (h : bnd m k ≠ none) (e : m = some (.ok a)) : k a ≠ none := by
  rw [e] at h
  exact h
theorem bnd_eq {α β : Type} {m : M α} {k : α → M β} {a : α} (e : m = some (.ok a)) : bnd m k = k a := by rw [e]; rfl
theorem bnd_raise {α β : Type} {m : M α} {k : α → M β} {n : Ex} (e : m = some (.er n)) : bnd m k = some (.er n) := by rw [e]; rfl

structure GE (X : Cx) (cl : Ex → Addr) (W : WX) (e : Expr) (f : Rho → M PyData) : Prop where
  ex : ∃ te, PE X e te ∧ DenE X.K cl W te f
structure GF (X : Cx) (cl : Ex → Addr) (W : WX) (e : Expr) (f : Rho → M (List PyData)) : Prop where
  ex : ∃ te, PE X e te ∧ DenF X.K cl W te f
structure GT (X : Cx) (cl : Ex → Addr) (W : WX) (e : Expr) (f : Rho → M Bool) : Prop where
  ex : ∃ te, PT X e te ∧ DenT X.K cl W te f
structure GW (X : Cx) (cl : Ex → Addr) (W : WX) (e : Expr) (f : Rho → M Bool) : Prop where
  ex : ∃ te, PW X e te ∧ DenT X.K cl W te f
structure GA (X : Cx) (cl : Ex → Addr) (W : WX) (es : List Expr) (f : Rho → M (List PyData)) : Prop where
  ex : ∃ te, PA X es te ∧ DenA X.K cl W te f

/-! ### the meanings -/
def mC (d : PyData) : Rho → M PyData := fun _ => ret d
def mV (i : Nat) : Rho → M PyData := fun ρ => match ρ[i]? with
  | some (some (.imm d)) => ret d
  | _ => none
def m1 (op : PyData → M PyData) (f : Rho → M PyData) : Rho → M PyData := fun ρ => bnd (f ρ) op
def m2 (op : PyData → PyData → M PyData) (f g : Rho → M PyData) : Rho → M PyData := fun ρ => bnd (f ρ) fun x => bnd (g ρ) fun y => op x y
def mB (f : Rho → M Bool) : Rho → M PyData := fun ρ => bnd (f ρ) fun b => ret (.bool b)
def m2B (op : PyData → PyData → M Bool) (f g : Rho → M PyData) : Rho → M Bool := fun ρ => bnd (f ρ) fun x => bnd (g ρ) fun y => op x y
def mChain (o p : PyData → PyData → M Bool) (f g h : Rho → M PyData) : Rho → M Bool := fun ρ => bnd (f ρ) fun x => bnd (g ρ) fun y => bnd (o x y) fun b => match b with
  | true => bnd (h ρ) fun z => p y z
  | false => ret false
def asB : PyData → M Bool
  | .bool b => ret b
  | _ => none
def mIsB (f : Rho → M PyData) : Rho → M Bool := fun ρ => bnd (f ρ) asB
def mAnd (f g : Rho → M Bool) : Rho → M Bool := fun ρ => bnd (f ρ) fun b => match b with
  | true => g ρ
  | false => ret false
def mOr (f g : Rho → M Bool) : Rho → M Bool := fun ρ => bnd (f ρ) fun b => match b with
  | true => ret true
  | false => g ρ
def mNot (f : Rho → M Bool) : Rho → M Bool := fun ρ => bnd (f ρ) fun b => ret (!b)
def mL (f : Rho → M (List PyData)) : Rho → M PyData := fun ρ => bnd (f ρ) fun ds => ret (.list ds)
def mTup (f : Rho → M (List PyData)) : Rho → M PyData := fun ρ => bnd (f ρ) fun ds => if ds.length ≤ 16777216 then ret (.tuple ds) else none
def mLst (f : Rho → M (List PyData)) : Rho → M (List PyData) := fun ρ => bnd (f ρ) fun ds => if ds.length ≤ 16777216 then ret ds else none
def mNil : Rho → M (List PyData) := fun _ => ret []
def mCons (f : Rho → M PyData) (g : Rho → M (List PyData)) : Rho → M (List PyData) := fun ρ => bnd (f ρ) fun d => bnd (g ρ) fun ds => ret (d :: ds)
def mCall (F : List PyData → M PyData) (f : Rho → M (List PyData)) : Rho → M PyData := fun ρ => bnd (f ρ) F
def mCallF (F : List PyData → M (List PyData)) (f : Rho → M (List PyData)) : Rho → M (List PyData) := fun ρ => bnd (f ρ) F
def mIf (t : Rho → M Bool) (f g : Rho → M PyData) : Rho → M PyData := fun ρ => bnd (t ρ) fun b => match b with
  | true => f ρ
  | false => g ρ

section
variable {X : Cx} {cl : Ex → Addr} {W : WX} {e a b c : Expr} {f g h : Rho → M PyData} {pos : Pos}
/-- an op of two values -/
def DR2 (X : Cx) (r : R2) (op : PyData → PyData → M PyData) : Prop := ∀ (L : Own) (H : Hp) (x y : V) (d e z : PyData), (∀ a, L a → H a ≠ none) → Is X.K L H x d → Is X.K L H y e → op d e = some (.ok z) →
  ∀ Q : VK, (∀ v H', Same H H' → Is X.K L H' v z → Q v H') → r x y H Q
def NoEr2 {β : Type} (op : PyData → PyData → M β) : Prop := ∀ d e n, op d e ≠ some (.er n)
theorem GF.ge {f : Rho → M (List PyData)} (h : GF X cl W e f) : GE X cl W e (mL f) := by
  obtain ⟨te, h1, h2⟩ := h
  refine ⟨te, h1, fun E hne Q hq => h2 E (bnd_ne hne) Q ⟨fun ds p xs H' e1 hp sm hx ha => hq.1 (.list ds) (.ref p) H' (bnd_eq e1) sm (.lst (fun z => E.dom p z hp) hx (ha.anti fun _ z => .inl z)), fun n H' e1 sm => hq.2 n H' (bnd_raise e1) sm⟩⟩
theorem ge_of {te : TE} (h : PE X e te) (hd : DenE X.K cl W te f) : GE X cl W e f := ⟨te, h, hd⟩
theorem ge_c {v : V} {d : PyData} (h : PE X e (tC v)) (hv : ∀ L H, Is X.K L H v d) : GE X cl W e (mC d) :=
  ⟨_, h, fun E _ Q hq => hq.1 d v _ rfl (Same.refl _) (hv _ _)⟩
theorem ge_int {i j pos} : GE X cl W (.Constant (.int i) j pos) (mC (.int i)) := ge_c pe_int fun _ _ => .int i
theorem ge_bl {b j pos} : GE X cl W (.Constant (.bool b) j pos) (mC (.bool b)) := ge_c pe_bl fun _ _ => .bl b
theorem ge_non {j pos} : GE X cl W (.Constant .none j pos) (mC .none) := ge_c pe_non fun _ _ => .non
theorem ge_str {x j pos} : GE X cl W (.Constant (.str x) j pos) (mC (.str x)) := ge_c pe_str fun _ _ => .str x
theorem ge_glob {x : Str} {v : V} {u : Value} {d : PyData} {pos : Pos} (hm : X.mg x = some u) (r : RelV v u) (hv : ∀ L H, Is X.K L H v d) (hg : Gl X x := by rfl) (hd : (x == ("__debug__" : Str)) = false := by decide) : GE X cl W (.Name x pos) (mC d) :=
  ge_c (pe_glob hg hm r hd) hv
theorem ge_v (i : Nat) {x : Str} {pos : Pos} (hN : X.N[i]? = some x := by rfl) (hv : Vis X.env.scope x := by first | exact Or.inl rfl | exact Or.inr (Or.inl rfl) | exact Or.inr (Or.inr rfl)) (hd : (x == ("__debug__" : Str)) = false := by decide)
    (hcd : (x == ("__classdict__" : Str)) = false := by decide) : GE X cl W (.Name x pos) (mV i) := by
  refine ⟨_, pe_var hN hv hd hcd, fun {Hb L0 α ρ σ H} E hne Q hq => ?_⟩
  unfold mV at hne hq
  split at hne
  · rename_i d e
    obtain ⟨v, h1, h2⟩ := E.imm e
    have e' : ρ[i]? = some (some (Sl.imm d)) := e
    rw [e'] at hq
    exact ⟨v, h1, hq.1 d v H rfl (Same.refl H) h2⟩
  · exact absurd rfl hne
theorem den_op {r : R2} {op : PyData → PyData → M PyData} {ta tb : TE} (ho : DR2 X r op) (hn : NoEr2 op) (ha : DenE X.K cl W ta f) (hb : DenE X.K cl W tb g) : DenE X.K cl W (tOp r ta tb) (m2 op f g) := by
  intro Hb L0 α ρ σ H E hne Q hq
  refine ha E (bnd_ne hne) _ ⟨fun x v H1 e1 s1 i1 => ?_, fun n H1 e1 s1 => hq.2 n H1 (bnd_raise e1) s1⟩
  have n1 := bnd_at hne e1
  have q1 := bnd_eq (k := fun x => bnd (g ρ) fun y => op x y) e1
  refine hb (E.mono s1) (bnd_ne n1) _ ⟨fun y w H2 e2 s2 i2 => ?_, fun n H2 e2 s2 => hq.2 n H2 (q1.trans (bnd_raise e2)) (s1.trans s2)⟩
  have n2 := bnd_at n1 e2
  have q2 := q1.trans (bnd_eq (k := fun y => op x y) e2)
  cases ez : op x y with
  | none => exact absurd ez n2
  | some z =>
    cases z with
    | er n => exact absurd ez (hn x y n)
    | ok z => exact ho _ H2 v w x y z (E.mono (s1.trans s2)).dom (i1.same s2) i2 ez Q fun u H3 s3 i3 => hq.1 z u H3 (q2.trans ez) ((s1.trans s2).trans s3) i3
theorem ge_op {op : Operator} {r : R2} {o : PyData → PyData → M PyData} (hr : OpR X (binaryOp op) r) (ho : DR2 X r o) (hn : NoEr2 o) (ha : GE X cl W a f) (hb : GE X cl W b g) : GE X cl W (.BinOp a op b pos) (m2 o f g) := by
  obtain ⟨ta, p1, d1⟩ := ha
  obtain ⟨tb, p2, d2⟩ := hb
  exact ⟨_, pe_op hr p1 p2, den_op ho hn d1 d2⟩
theorem den_1 {r : V → Hp → VK → Prop} {op : PyData → M PyData} {ta : TE} (ho : ∀ (L : Own) (H : Hp) (x : V) (d z : PyData), (∀ a, L a → H a ≠ none) → Is X.K L H x d → op d = some (.ok z) → ∀ Q : VK, (∀ v H', Same H H' → Is X.K L H' v z → Q v H') → r x H Q) (hn : ∀ d n, op d ≠ some (.er n))
    (ha : DenE X.K cl W ta f) : DenE X.K cl W (tUn r ta) (m1 op f) := by
  intro Hb L0 α ρ σ H E hne Q hq
  refine ha E (bnd_ne hne) _ ⟨fun x v H1 e1 s1 i1 => ?_, fun n H1 e1 s1 => hq.2 n H1 (bnd_raise e1) s1⟩
  have n1 := bnd_at hne e1
  have q1 := bnd_eq (k := op) e1
  cases ez : op x with
  | none => exact absurd ez n1
  | some z =>
    cases z with
    | er n => exact absurd ez (hn x n)
    | ok z => exact ho _ H1 v x z (E.mono s1).dom i1 ez Q fun u H3 s3 i3 => hq.1 z u H3 (q1.trans ez) (s1.trans s3) i3

/-! ### tests -/
/-- a comparison by values -/
def DRB (X : Cx) (r : R2) (op : PyData → PyData → M Bool) : Prop := ∀ (L : Own) (H : Hp) (x y : V) (d e : PyData) (z : Bool), Is X.K L H x d → Is X.K L H y e → op d e = some (.ok z) → ∀ Q : VK, (∀ H', Same H H' → Q (.bl z) H') → r x y H Q
theorem den_cmp {r : R2} {op : PyData → PyData → M Bool} {ta tb : TE} (ho : DRB X r op) (hn : NoEr2 op) (ha : DenE X.K cl W ta f) (hb : DenE X.K cl W tb g) :
    ∀ {Hb L0 α ρ σ H}, Env X.K Hb L0 α ρ σ H → m2B op f g ρ ≠ none → ∀ Q : VK, (∀ z H', m2B op f g ρ = some (.ok z) → Same H H' → Q (.bl z) H') → (∀ n H', m2B op f g ρ = some (.er n) → Same H H' → W (.ref (cl n)) none σ H') → tOp r ta tb σ H Q := by
  intro Hb L0 α ρ σ H E hne Q hq hr
  refine ha E (bnd_ne hne) _ ⟨fun x v H1 e1 s1 i1 => ?_, fun n H1 e1 s1 => hr n H1 (bnd_raise e1) s1⟩
  have n1 := bnd_at hne e1
  have q1 := bnd_eq (k := fun x => bnd (g ρ) fun y => op x y) e1
  refine hb (E.mono s1) (bnd_ne n1) _ ⟨fun y w H2 e2 s2 i2 => ?_, fun n H2 e2 s2 => hr n H2 (q1.trans (bnd_raise e2)) (s1.trans s2)⟩
  have n2 := bnd_at n1 e2
  have q2 := q1.trans (bnd_eq (k := fun y => op x y) e2)
  cases ez : op x y with
  | none => exact absurd ez n2
  | some z =>
    cases z with
    | er n => exact absurd ez (hn x y n)
    | ok z => exact ho _ H2 v w x y z (i1.same s2) i2 ez Q fun H3 s3 => hq z H3 (q2.trans ez) ((s1.trans s2).trans s3)
theorem ge_cmp {op : CmpOp} {r : R2} {o : PyData → PyData → M Bool} (hr : OpR X (compareOp op) r) (ho : DRB X r o) (hn : NoEr2 o) (ha : GE X cl W a f) (hb : GE X cl W b g) (hm : behindInMarks op b = false) : GE X cl W (.Compare a [op] [b] pos) (mB (m2B o f g)) := by
  obtain ⟨ta, p1, d1⟩ := ha
  obtain ⟨tb, p2, d2⟩ := hb
  exact ⟨_, pe_cmpR hr p1 p2 hm, fun E hne Q hq => den_cmp ho hn d1 d2 E (bnd_ne hne) Q (fun z H' e1 s1 => hq.1 _ _ H' (bnd_eq e1) s1 (.bl z)) fun n H' e1 s1 => hq.2 n H' (bnd_raise e1) s1⟩
theorem gt_cmp {op : CmpOp} {r : R2} {o : PyData → PyData → M Bool} (hr : OpR X (compareOp op) r) (ho : DRB X r o) (hn : NoEr2 o) (ha : GE X cl W a f) (hb : GE X cl W b g) (hm : behindInMarks op b = false) : GT X cl W (.Compare a [op] [b] pos) (m2B o f g) := by
  obtain ⟨ta, p1, d1⟩ := ha
  obtain ⟨tb, p2, d2⟩ := hb
  exact ⟨_, pt_cmpR hr p1 p2 hm, fun E hne Q hq => den_cmp ho hn d1 d2 E hne _ (fun z H' e1 s1 => ⟨z, rfl, hq.1 z H' e1 s1⟩) fun n H' e1 s1 => hq.2 n H' e1 s1⟩
theorem den_chain {r r' : R2} {o p : PyData → PyData → M Bool} {ta tb tc : TE} (ho : DRB X r o) (hn : NoEr2 o) (hp : DRB X r' p) (hn' : NoEr2 p) (ha : DenE X.K cl W ta f) (hb : DenE X.K cl W tb g) (hc : DenE X.K cl W tc h) :
    ∀ {Hb L0 α ρ σ H}, Env X.K Hb L0 α ρ σ H → mChain o p f g h ρ ≠ none → ∀ Q : VK, (∀ z H', mChain o p f g h ρ = some (.ok z) → Same H H' → Q (.bl z) H') → (∀ n H', mChain o p f g h ρ = some (.er n) → Same H H' → W (.ref (cl n)) none σ H') → tChain r r' ta tb tc σ H Q := by
  intro Hb L0 α ρ σ H E hne Q hq hr
  refine ha E (bnd_ne hne) _ ⟨fun x v H1 e1 s1 i1 => ?_, fun n H1 e1 s1 => hr n H1 (bnd_raise e1) s1⟩
  have n1 := bnd_at hne e1
  have q1 : mChain o p f g h ρ = _ := bnd_eq e1
  refine hb (E.mono s1) (bnd_ne n1) _ ⟨fun y w H2 e2 s2 i2 => ?_, fun n H2 e2 s2 => hr n H2 (q1.trans (bnd_raise e2)) (s1.trans s2)⟩
  have n2 := bnd_at n1 e2
  have q2 := q1.trans (bnd_eq e2)
  have n3 := bnd_ne n2
  cases ez : o x y with
  | none => exact absurd ez n3
  | some z =>
    cases z with
    | er n => exact absurd ez (hn x y n)
    | ok z =>
      have n4 := bnd_at n2 ez
      have q3 := q2.trans (bnd_eq ez)
      refine ho _ H2 v w x y z (i1.same s2) i2 ez _ fun H3 s3 => ⟨z, rfl, ?_⟩
      cases z with
      | false =>
        have q4 : mChain o p f g h ρ = some (.ok false) := q3
        exact hq false H3 q4 ((s1.trans s2).trans s3)
      | true =>
        have n5 : bnd (h ρ) (fun z => p y z) ≠ none := n4
        have q4 : mChain o p f g h ρ = bnd (h ρ) (fun z => p y z) := q3
        have s12 := (s1.trans s2).trans s3
        show tc σ H3 _
        refine hc (E.mono s12) (bnd_ne n5) _ ⟨fun z u H4 e4 s4 i4 => ?_, fun n H4 e4 s4 => hr n H4 (q4.trans (bnd_raise e4)) (s12.trans s4)⟩
        have n6 := bnd_at n5 e4
        have q5 := q4.trans (bnd_eq e4)
        cases ew : p y z with
        | none => exact absurd ew n6
        | some b =>
          cases b with
          | er n => exact absurd ew (hn' y z n)
          | ok b => exact hp _ H4 w u y z b ((i2.same s3).same s4) i4 ew Q fun H5 s5 => hq b H5 (q5.trans ew) ((s12.trans s4).trans s5)
theorem ge_chain {op op' : CmpOp} {r r' : R2} {o p : PyData → PyData → M Bool} (hr : OpR X (compareOp op) r) (hr' : OpR X (compareOp op') r') (ho : DRB X r o) (hn : NoEr2 o) (hp : DRB X r' p) (hn' : NoEr2 p)
    (ha : GE X cl W a f) (hb : GE X cl W b g) (hc : GE X cl W c h)
    (pc : ∀ {ta tb tc : TE}, PE X a ta → PE X b tb → PE X c tc → PE X (.Compare a [op, op'] [b, c] pos) (tChain r r' ta tb tc)) : GE X cl W (.Compare a [op, op'] [b, c] pos) (mB (mChain o p f g h)) := by
  obtain ⟨ta, p1, d1⟩ := ha
  obtain ⟨tb, p2, d2⟩ := hb
  obtain ⟨tc, p3, d3⟩ := hc
  exact ⟨_, pc p1 p2 p3, fun E hne Q hq => den_chain ho hn hp hn' d1 d2 d3 E (bnd_ne hne) Q (fun z H' e1 s1 => hq.1 _ _ H' (bnd_eq e1) s1 (.bl z)) fun n H' e1 s1 => hq.2 n H' (bnd_raise e1) s1⟩
theorem gt_chain {op op' : CmpOp} {r r' : R2} {o p : PyData → PyData → M Bool} (hr : OpR X (compareOp op) r) (hr' : OpR X (compareOp op') r') (ho : DRB X r o) (hn : NoEr2 o) (hp : DRB X r' p) (hn' : NoEr2 p)
    (ha : GE X cl W a f) (hb : GE X cl W b g) (hc : GE X cl W c h)
    (pc : ∀ {ta tb tc : TE}, PE X a ta → PE X b tb → PE X c tc → PT X (.Compare a [op, op'] [b, c] pos) (tTest (tChain r r' ta tb tc))) : GT X cl W (.Compare a [op, op'] [b, c] pos) (mChain o p f g h) := by
  obtain ⟨ta, p1, d1⟩ := ha
  obtain ⟨tb, p2, d2⟩ := hb
  obtain ⟨tc, p3, d3⟩ := hc
  exact ⟨_, pc p1 p2 p3, fun E hne Q hq => den_chain ho hn hp hn' d1 d2 d3 E hne _ (fun z H' e1 s1 => ⟨z, rfl, hq.1 z H' e1 s1⟩) fun n H' e1 s1 => hq.2 n H' e1 s1⟩
/-- an expression that gives a bool, as a test -/
theorem gt_val (ha : GE X cl W e f) (he : ∀ whole, isTrue e X.env whole = (do let v ← whole; standAt e.pos; holding [v] (truthy v)) := by intro _; rfl) : GT X cl W e (mIsB f) := by
  obtain ⟨ta, p1, d1⟩ := ha
  refine ⟨_, pt_val p1 he, fun {Hb L0 α ρ σ H} E hne Q hq => d1 E (bnd_ne hne) _ ⟨fun d v H1 e1 s1 i1 => ?_, fun n H1 e1 s1 => hq.2 n H1 (bnd_raise e1) s1⟩⟩
  have n1 := bnd_at hne e1
  have q1 := bnd_eq (k := asB) e1
  cases d with
  | bool b =>
    cases i1
    exact ⟨b, rfl, hq.1 b H1 q1 s1⟩
  | _ => exact absurd rfl n1
variable {ft gu : Rho → M Bool} {rest : List Expr}
theorem den_and {t u : TT} (h1 : DenT X.K cl W t ft) (h2 : DenT X.K cl W u gu) : DenT X.K cl W (tAnd t u) (mAnd ft gu) := by
  intro Hb L0 α ρ σ H E hne Q hq
  refine h1 E (bnd_ne hne) _ ⟨fun b H1 e1 s1 => ?_, fun n H1 e1 s1 => hq.2 n H1 (bnd_raise e1) s1⟩
  have n1 := bnd_at hne e1
  have q1 : mAnd ft gu ρ = _ := bnd_eq e1
  cases b with
  | true => exact h2 (E.mono s1) n1 Q ⟨fun b H2 e2 s2 => hq.1 b H2 (q1.trans e2) (s1.trans s2), fun n H2 e2 s2 => hq.2 n H2 (q1.trans e2) (s1.trans s2)⟩
  | false => exact hq.1 false H1 q1 s1
theorem den_or {t u : TT} (h1 : DenT X.K cl W t ft) (h2 : DenT X.K cl W u gu) : DenT X.K cl W (tOr t u) (mOr ft gu) := by
  intro Hb L0 α ρ σ H E hne Q hq
  refine h1 E (bnd_ne hne) _ ⟨fun b H1 e1 s1 => ?_, fun n H1 e1 s1 => hq.2 n H1 (bnd_raise e1) s1⟩
  have n1 := bnd_at hne e1
  have q1 : mOr ft gu ρ = _ := bnd_eq e1
  cases b with
  | false => exact h2 (E.mono s1) n1 Q ⟨fun b H2 e2 s2 => hq.1 b H2 (q1.trans e2) (s1.trans s2), fun n H2 e2 s2 => hq.2 n H2 (q1.trans e2) (s1.trans s2)⟩
  | true => exact hq.1 true H1 q1 s1
theorem GW.t (h : GW X cl W e ft) : GT X cl W e ft := let ⟨te, p, d⟩ := h; ⟨te, p.pt, d⟩
theorem gw_and1 (ha : GT X cl W a ft) : GW X cl W (.BoolOp .And [a] pos) ft := let ⟨te, p, d⟩ := ha; ⟨te, pw_and1 p, d⟩
theorem gw_or1 (ha : GT X cl W a ft) : GW X cl W (.BoolOp .Or [a] pos) ft := let ⟨te, p, d⟩ := ha; ⟨te, pw_or1 p, d⟩
theorem gw_and (ha : GT X cl W a ft) (hb : GW X cl W (.BoolOp .And (b :: rest) pos) gu) : GW X cl W (.BoolOp .And (a :: b :: rest) pos) (mAnd ft gu) :=
  let ⟨_, p, d⟩ := ha; let ⟨_, p2, d2⟩ := hb; ⟨_, pw_and p p2, den_and d d2⟩
theorem gw_or (ha : GT X cl W a ft) (hb : GW X cl W (.BoolOp .Or (b :: rest) pos) gu) : GW X cl W (.BoolOp .Or (a :: b :: rest) pos) (mOr ft gu) :=
  let ⟨_, p, d⟩ := ha; let ⟨_, p2, d2⟩ := hb; ⟨_, pw_or p p2, den_or d d2⟩
theorem gt_not (ha : GT X cl W a ft) : GT X cl W (.UnaryOp .Not a pos) (mNot ft) := by
  obtain ⟨te, p, d⟩ := ha
  exact ⟨_, pt_not p, fun E hne Q hq => d E (bnd_ne hne) _ ⟨fun b H1 e1 s1 => hq.1 _ H1 (bnd_eq e1) s1, fun n H1 e1 s1 => hq.2 n H1 (bnd_raise e1) s1⟩⟩
/-! .. as values: all items bools -/
theorem mB_inv {f : Rho → M Bool} {ρ : Rho} (h : mB f ρ ≠ none) : f ρ ≠ none := bnd_ne h
theorem ge_one {op} (ha : GE X cl W a (mB ft)) : GE X cl W (.BoolOp op [a] pos) (mB ft) := let ⟨te, p, d⟩ := ha; ⟨te, pe_one p, d⟩
theorem ge_and (ha : GE X cl W a (mB ft)) (hb : GE X cl W (.BoolOp .And (b :: rest) pos) (mB gu)) : GE X cl W (.BoolOp .And (a :: b :: rest) pos) (mB (mAnd ft gu)) := by
  obtain ⟨ta, p1, d1⟩ := ha
  obtain ⟨tb, p2, d2⟩ := hb
  refine ⟨_, pe_and p1 p2, fun {Hb L0 α ρ σ H} E hne Q hq => ?_⟩
  have n0 := mB_inv hne
  cases e0 : ft ρ with
  | none => exact absurd (show mAnd ft gu ρ = none by unfold mAnd; rw [e0]; rfl) n0
  | some r =>
    have nm : mB ft ρ ≠ none := by unfold mB; rw [e0]; cases r <;> exact Option.some_ne_none _
    refine d1 E nm _ ⟨fun d v H1 e1 s1 i1 => ?_, fun n H1 e1 s1 => ?_⟩
    · cases r with
      | er n => unfold mB at e1; rw [e0] at e1; cases e1
      | ok b =>
        have ed : d = .bool b := by
          unfold mB at e1
          rw [e0] at e1
          have e2 : some (Rs.ok (PyData.bool b)) = some (Rs.ok d) := e1
          injection e2 with e2
          injection e2 with e2
          exact e2.symm
        subst ed
        cases i1
        refine ⟨b, rfl, ?_⟩
        cases b with
        | true =>
          have qa : mAnd ft gu ρ = gu ρ := by unfold mAnd; rw [e0]; rfl
          have qb : mB (mAnd ft gu) ρ = mB gu ρ := by unfold mB; rw [qa]
          rw [qb] at hq hne
          exact d2 (E.mono s1) hne Q ⟨fun d v H2 e2 s2 i2 => hq.1 d v H2 e2 (s1.trans s2) i2, fun n H2 e2 s2 => hq.2 n H2 e2 (s1.trans s2)⟩
        | false =>
          have qa : mAnd ft gu ρ = ret false := by unfold mAnd; rw [e0]; rfl
          have qb : mB (mAnd ft gu) ρ = some (.ok (.bool false)) := by unfold mB; rw [qa]; rfl
          exact hq.1 _ _ H1 qb s1 (.bl false)
    · cases r with
      | ok b => unfold mB at e1; rw [e0] at e1; cases e1
      | er m =>
        refine hq.2 n H1 ?_ s1
        unfold mB at e1 ⊢
        unfold mAnd
        rw [e0] at e1 ⊢
        exact e1
theorem ge_or (ha : GE X cl W a (mB ft)) (hb : GE X cl W (.BoolOp .Or (b :: rest) pos) (mB gu)) : GE X cl W (.BoolOp .Or (a :: b :: rest) pos) (mB (mOr ft gu)) := by
  obtain ⟨ta, p1, d1⟩ := ha
  obtain ⟨tb, p2, d2⟩ := hb
  refine ⟨_, pe_or p1 p2, fun {Hb L0 α ρ σ H} E hne Q hq => ?_⟩
  have n0 := mB_inv hne
  cases e0 : ft ρ with
  | none => exact absurd (show mOr ft gu ρ = none by unfold mOr; rw [e0]; rfl) n0
  | some r =>
    have nm : mB ft ρ ≠ none := by unfold mB; rw [e0]; cases r <;> exact Option.some_ne_none _
    refine d1 E nm _ ⟨fun d v H1 e1 s1 i1 => ?_, fun n H1 e1 s1 => ?_⟩
    · cases r with
      | er n => unfold mB at e1; rw [e0] at e1; cases e1
      | ok b =>
        have ed : d = .bool b := by
          unfold mB at e1
          rw [e0] at e1
          have e2 : some (Rs.ok (PyData.bool b)) = some (Rs.ok d) := e1
          injection e2 with e2
          injection e2 with e2
          exact e2.symm
        subst ed
        cases i1
        refine ⟨b, rfl, ?_⟩
        cases b with
        | false =>
          have qa : mOr ft gu ρ = gu ρ := by unfold mOr; rw [e0]; rfl
          have qb : mB (mOr ft gu) ρ = mB gu ρ := by unfold mB; rw [qa]
          rw [qb] at hq hne
          exact d2 (E.mono s1) hne Q ⟨fun d v H2 e2 s2 i2 => hq.1 d v H2 e2 (s1.trans s2) i2, fun n H2 e2 s2 => hq.2 n H2 e2 (s1.trans s2)⟩
        | true =>
          have qa : mOr ft gu ρ = ret true := by unfold mOr; rw [e0]; rfl
          have qb : mB (mOr ft gu) ρ = some (.ok (.bool true)) := by unfold mB; rw [qa]; rfl
          exact hq.1 _ _ H1 qb s1 (.bl true)
    · cases r with
      | ok b => unfold mB at e1; rw [e0] at e1; cases e1
      | er m =>
        refine hq.2 n H1 ?_ s1
        unfold mB at e1 ⊢
        unfold mOr
        rw [e0] at e1 ⊢
        exact e1
theorem ge_not (ha : GE X cl W a (mB ft)) : GE X cl W (.UnaryOp .Not a pos) (mB (mNot ft)) := by
  obtain ⟨te, p, d⟩ := ha
  refine ⟨_, pe_not p, fun {Hb L0 α ρ σ H} E hne Q hq => ?_⟩
  have n0 := mB_inv hne
  cases e0 : ft ρ with
  | none => exact absurd (show mNot ft ρ = none by unfold mNot; rw [e0]; rfl) n0
  | some r =>
    have nm : mB ft ρ ≠ none := by unfold mB; rw [e0]; cases r <;> exact Option.some_ne_none _
    refine d E nm _ ⟨fun d v H1 e1 s1 i1 => ?_, fun n H1 e1 s1 => ?_⟩
    · cases r with
      | er n => unfold mB at e1; rw [e0] at e1; cases e1
      | ok b =>
        have ed : d = .bool b := by
          unfold mB at e1
          rw [e0] at e1
          have e2 : some (Rs.ok (PyData.bool b)) = some (Rs.ok d) := e1
          injection e2 with e2
          injection e2 with e2
          exact e2.symm
        subst ed
        cases i1
        exact ⟨b, rfl, hq.1 _ _ H1 (by unfold mB mNot; rw [e0]; rfl) s1 (.bl _)⟩
    · cases r with
      | ok b => unfold mB at e1; rw [e0] at e1; cases e1
      | er m =>
        refine hq.2 n H1 ?_ s1
        unfold mB at e1 ⊢
        unfold mNot
        rw [e0] at e1 ⊢
        exact e1
/-- any expression that gives a bool, in the form of the three above -/
theorem mB_isB {f : Rho → M PyData} {ρ : Rho} (h : mB (mIsB f) ρ ≠ none) : mB (mIsB f) ρ = f ρ ∧ f ρ ≠ none := by
  unfold mB mIsB at h ⊢
  cases e : f ρ with
  | none => rw [e] at h; exact absurd rfl h
  | some r =>
    cases r with
    | er n => exact ⟨rfl, Option.some_ne_none _⟩
    | ok d =>
      cases d with
      | bool b => exact ⟨rfl, Option.some_ne_none _⟩
      | _ => rw [e] at h; exact absurd rfl h
theorem GE.bv (ha : GE X cl W e f) : GE X cl W e (mB (mIsB f)) := by
  obtain ⟨te, p, d⟩ := ha
  refine ⟨te, p, fun {Hb L0 α ρ σ H} E hne Q hq => ?_⟩
  obtain ⟨h1, h2⟩ := mB_isB hne
  rw [h1] at hq
  exact d E h2 Q hq
theorem ge_ifExp (hc : GT X cl W c ft) (ha : GE X cl W a f) (hb : GE X cl W b g) : GE X cl W (.IfExp c a b pos) (mIf ft f g) := by
  obtain ⟨tc, p0, d0⟩ := hc
  obtain ⟨ta, p1, d1⟩ := ha
  obtain ⟨tb, p2, d2⟩ := hb
  refine ⟨_, pe_ifExp p0 p1 p2, fun {Hb L0 α ρ σ H} E hne Q hq => d0 E (bnd_ne hne) _ ⟨fun b H1 e1 s1 => ?_, fun n H1 e1 s1 => hq.2 n H1 (bnd_raise e1) s1⟩⟩
  have n1 := bnd_at hne e1
  have q1 : mIf ft f g ρ = _ := bnd_eq e1
  cases b with
  | true => exact d1 (E.mono s1) n1 Q ⟨fun d v H2 e2 s2 i2 => hq.1 d v H2 (q1.trans e2) (s1.trans s2) i2, fun n H2 e2 s2 => hq.2 n H2 (q1.trans e2) (s1.trans s2)⟩
  | false => exact d2 (E.mono s1) n1 Q ⟨fun d v H2 e2 s2 i2 => hq.1 d v H2 (q1.trans e2) (s1.trans s2) i2, fun n H2 e2 s2 => hq.2 n H2 (q1.trans e2) (s1.trans s2)⟩

/-! ### arguments, displays -/
variable {es : List Expr} {fa : Rho → M (List PyData)}
theorem ga_nil : GA X cl W [] mNil := ⟨_, pa_nil, fun E _ Q hq => hq.1 [] [] _ rfl (Same.refl _) .nil⟩
theorem den_cons {te : TE} {ta : TA} (h1 : DenE X.K cl W te f) (h2 : DenA X.K cl W ta fa) : DenA X.K cl W (tCons te ta) (mCons f fa) := by
  intro Hb L0 α ρ σ H E hne Q hq
  refine h1 E (bnd_ne hne) _ ⟨fun d v H1 e1 s1 i1 => ?_, fun n H1 e1 s1 => hq.2 n H1 (bnd_raise e1) s1⟩
  have n1 := bnd_at hne e1
  have q1 : mCons f fa ρ = _ := bnd_eq e1
  refine h2 (E.mono s1) (bnd_ne n1) _ ⟨fun ds vs H2 e2 s2 i2 => ?_, fun n H2 e2 s2 => hq.2 n H2 (q1.trans (bnd_raise e2)) (s1.trans s2)⟩
  exact hq.1 (d :: ds) (v :: vs) H2 (q1.trans (bnd_eq e2)) (s1.trans s2) (.cons (i1.same s2) i2)
theorem ga_cons (ha : GE X cl W e f) (hr : GA X cl W es fa) (hs : starEach (e :: es) X.env = (false, eval e X.env) :: starEach es X.env := by rfl) : GA X cl W (e :: es) (mCons f fa) := by
  obtain ⟨te, p1, d1⟩ := ha
  obtain ⟨ta, p2, d2⟩ := hr
  exact ⟨_, pa_cons p1 p2 hs, den_cons d1 d2⟩
theorem if_inv {α : Type} {c : Prop} [Decidable c] {m : M α} (h : (if c then m else none) ≠ none) : c ∧ (if c then m else none) = m := by
  by_cases hc : c
  · exact ⟨hc, if_pos hc⟩
  · rw [if_neg hc] at h
    exact absurd rfl h
theorem szl {n : Nat} (h : n ≤ 16777216) : n ≤ sizeLine := by rw [sizeLine_eq]; exact h
theorem szl' {n : Nat} (h : n < 16777216) : n < sizeLine := by rw [sizeLine_eq]; exact h
theorem IsAll.upd {K : PySem.W.Frag} {L : Own} {H : Hp} {p : Addr} {o : HO} {vs : List V} {ds : List PyData} (h : IsAll K L H vs ds) (hp : H p = none) : IsAll K (fun a => L a ∨ a = p) (upd H p o) vs ds :=
  h.mv fun a u n q => by
    have ne : a ≠ p := ne_of_none q hp
    exact ⟨fun z => z.elim n ne, by rw [upd_ne ne]; exact q⟩
theorem Same.new {H : Hp} {p : Addr} {o : HO} (hp : H p = none) : Same H (upd H p o) := fun b u e => by
  rw [upd_ne (ne_of_none e hp)]
  exact e
theorem ge_tup {k} (h : GA X cl W es fa) : GE X cl W (.Tuple es k pos) (mTup fa) := by
  obtain ⟨ta, p1, d1⟩ := h
  refine ⟨_, pe_tup p1, fun {Hb L0 α ρ σ H} E hne Q hq => d1 E (bnd_ne hne) _ ⟨fun ds vs H1 e1 s1 i1 => ?_, fun n H1 e1 s1 => hq.2 n H1 (bnd_raise e1) s1⟩⟩
  have n1 := bnd_at hne e1
  have q1 : mTup fa ρ = _ := bnd_eq e1
  obtain ⟨c1, c2⟩ := if_inv n1
  refine ⟨szl (by rw [i1.len]; exact c1), fun p hp => hq.1 (.tuple ds) (.ref p) _ (q1.trans c2) (s1.trans (Same.new hp)) ?_⟩
  have nl : ¬ Lof L0 α p := fun z => (E.mono s1).dom p z hp
  exact .tup (.inl ⟨nl, upd_same⟩) (i1.same (Same.new hp))
theorem gf_lst (h : GA X cl W es fa) : GF X cl W (.List es pos) (mLst fa) := by
  obtain ⟨ta, p1, d1⟩ := h
  refine ⟨_, pe_lst p1, fun {Hb L0 α ρ σ H} E hne Q hq => d1 E (bnd_ne hne) _ ⟨fun ds vs H1 e1 s1 i1 => ?_, fun n H1 e1 s1 => hq.2 n H1 (bnd_raise e1) s1⟩⟩
  have n1 := bnd_at hne e1
  have q1 : mLst fa ρ = _ := bnd_eq e1
  obtain ⟨c1, c2⟩ := if_inv n1
  exact ⟨szl (by rw [i1.len]; exact c1), fun p hp => hq.1 ds p vs _ (q1.trans c2) (s1.free hp) (s1.trans (Same.new hp)) upd_same (i1.upd hp)⟩

/-! ### what is computed while slot i is given up, where an atom comes of it -/
def atom : PyData → Bool
  | .none => true
  | .bool _ => true
  | .int _ => true
  | .str _ => true
  | _ => false
def mFrz (i : Nat) (f : Rho → M PyData) : Rho → M PyData := fun ρ => bnd (f (frz i ρ)) fun d => if atom d = true then ret d else none
def mFrzT (i : Nat) (f : Rho → M Bool) : Rho → M Bool := fun ρ => f (frz i ρ)
theorem Is.atom {K : PySem.W.Frag} {L L' : Own} {H : Hp} {v : V} {d : PyData} (h : Is K L H v d) (a : atom d = true) : Is K L' H v d := by
  cases h with
  | non => exact .non
  | bl b => exact .bl b
  | int i => exact .int i
  | str x => exact .str x
  | _ => cases a
theorem ge_frz (i : Nat) (h : GE X cl W e f) : GE X cl W e (mFrz i f) := by
  obtain ⟨te, p, d⟩ := h
  refine ⟨te, p, fun {Hb L0 α ρ σ H} E hne Q hq => ?_⟩
  obtain ⟨α', E', _⟩ := E.frz i
  refine d E' (bnd_ne hne) Q ⟨fun d v H1 e1 s1 i1 => ?_, fun n H1 e1 s1 => hq.2 n H1 (bnd_raise e1) s1⟩
  have n1 := bnd_at hne e1
  have q1 : mFrz i f ρ = _ := bnd_eq e1
  obtain ⟨c1, c2⟩ := if_inv n1
  exact hq.1 d v H1 (q1.trans c2) s1 (i1.atom c1)
theorem gt_frz (i : Nat) (h : GT X cl W e ft) : GT X cl W e (mFrzT i ft) := by
  obtain ⟨te, p, d⟩ := h
  refine ⟨te, p, fun {Hb L0 α ρ σ H} E hne Q hq => ?_⟩
  obtain ⟨α', E', _⟩ := E.frz i
  exact d E' hne Q hq
end
end VW
namespace VW
open PySem PySem.Spec PyProof.Rows L2

/-! ### plain data, for the library's == -/
mutual
theorem Is.dp {K : PySem.W.Frag} {L : Own} {H : Hp} : ∀ {d : PyData} {v : V}, d.plain = true → Is K L H v d → Dp K H v d
  | .none, _, _, h => by cases h; exact .non
  | .bool b, _, _, h => by cases h; exact .bl b
  | .int i, _, _, h => by cases h; exact .int i
  | .str x, _, _, h => by cases h; exact .str x
  | .list ds, _, p, h => by
    cases h with
    | lst h1 h2 h3 => exact .lst (SqL.of h2) (IsAll.dp (by simpa [PyData.plain] using p) h3)
  | .tuple ds, _, p, h => by
    cases h with
    | tup h1 h3 =>
      refine .tup ?_ (IsAll.dp (by simpa [PyData.plain] using p) h3)
      rcases h1 with ⟨_, h2⟩ | h1
      · exact SqT.of h2
      · exact .inr h1.2
  | .dict _, _, p, _ => by simp [PyData.plain] at p
theorem IsAll.dp {K : PySem.W.Frag} {L : Own} {H : Hp} : ∀ {ds : List PyData} {vs : List V}, PyData.plainAll ds = true → IsAll K L H vs ds → DpAll K H vs ds
  | [], _, _, h => by cases h; exact .nil
  | d :: ds, _, p, h => by
    have p' : d.plain = true ∧ PyData.plainAll ds = true := by simpa [PyData.plainAll] using p
    cases h with
    | cons h1 h2 => exact .cons (h1.dp p'.1) (h2.dp p'.2)
end
/-- a tuple that is read -/
theorem Is.tupD {K : PySem.W.Frag} {L : Own} {H : Hp} {v : V} {ds : List PyData} (h : Is K L H v (.tuple ds)) : ∃ a xs, v = .ref a ∧ SqT K H a xs ∧ IsAll K L H xs ds := by
  cases h with
  | tup h1 h3 =>
    refine ⟨_, _, rfl, ?_, h3⟩
    rcases h1 with ⟨_, h2⟩ | h1
    · exact SqT.of h2
    · exact .inr h1.2
theorem Is.lstD {K : PySem.W.Frag} {L : Own} {H : Hp} {v : V} {ds : List PyData} (h : Is K L H v (.list ds)) : ∃ a xs, v = .ref a ∧ ¬ L a ∧ H a = some (.lst xs) ∧ IsAll K L H xs ds := by
  cases h with
  | lst h1 h2 h3 => exact ⟨_, _, rfl, h1, h2, h3⟩
theorem Is.scrD {K : PySem.W.Frag} {L : Own} {H : Hp} {v : V} {ds : List PyData} (h : Is K L H v (.dict [(.none, .list ds)])) : ∃ a xs, v = .ref a ∧ SqL K H a xs ∧ IsAll K L H xs ds := by
  cases h with
  | scr h1 =>
    refine ⟨_, _, rfl, ?_, IsAll.ints _⟩
    rcases h1 with ⟨_, o, h2⟩ | h1
    · exact .inl (.inr ⟨o, h2⟩)
    · exact .inr h1

/-! ### + - * // % ** -/
def pyAdd : PyData → PyData → M PyData
  | .int i, .int j => ret (.int (i + j))
  | .str x, .str y => if x.length + y.length ≤ 16777216 then ret (.str (x ++ y)) else none
  | .tuple xs, .tuple ys => if xs.length + ys.length ≤ 16777216 then ret (.tuple (xs ++ ys)) else none
  | .list xs, .list ys => if xs.length + ys.length ≤ 16777216 then ret (.list (xs ++ ys)) else none
  | _, _ => none
def pySub : PyData → PyData → M PyData
  | .int i, .int j => ret (.int (i - j))
  | _, _ => none
def pyMul : PyData → PyData → M PyData
  | .int i, .int j => if (-(2 ^ 64) < i ∧ i < 2 ^ 64) ∨ (-(2 ^ 64) < j ∧ j < 2 ^ 64) then ret (.int (i * j)) else none
  | .list xs, .int k => if k ≤ 16777216 ∧ -16777216 ≤ k ∧ xs.length * k.toNat ≤ 16777216 then ret (.list (List.replicate k.toNat xs).flatten) else none
  | _, _ => none
def pyDiv : PyData → PyData → M PyData
  | .int i, .int j => if 0 < j ∧ j < 1073741824 then ret (.int (i / j)) else none
  | _, _ => none
def pyMod : PyData → PyData → M PyData
  | .int i, .int j => if 0 < j then ret (.int (i % j)) else none
  | _, _ => none
def pyPow : PyData → PyData → M PyData
  | .int i, .int j => if 0 ≤ j ∧ j ≤ 1000000 ∧ i.natAbs < 2 ^ 64 then ret (.int (i ^ j.toNat)) else none
  | _, _ => none
def pyNeg : PyData → M PyData
  | .int i => ret (.int (-i))
  | _ => none
theorem if_ok {α : Type} {c : Prop} [Decidable c] {m : α} {z : α} (h : (if c then ret m else (none : M α)) = some (.ok z)) : c ∧ m = z := by
  by_cases hc : c
  · rw [if_pos hc] at h
    injection h with h
    injection h with h
    exact ⟨hc, h⟩
  · rw [if_neg hc] at h
    cases h
theorem ret_ok {α : Type} {m z : α} (h : ret m = some (.ok z)) : m = z := by
  injection h with h
  injection h with h
theorem Is.intD {K : PySem.W.Frag} {L : Own} {H : Hp} {v : V} {i : Int} (h : Is K L H v (.int i)) : v = .int i := by cases h; rfl
theorem Is.strD {K : PySem.W.Frag} {L : Own} {H : Hp} {v : V} {x : Str} (h : Is K L H v (.str x)) : v = .str x := by cases h; rfl
theorem Is.blD {K : PySem.W.Frag} {L : Own} {H : Hp} {v : V} {x : Bool} (h : Is K L H v (.bool x)) : v = .bl x := by cases h; rfl
section
variable {X : Cx}
def rAddP (K : PySem.W.Frag) : R2 := fun x y H Q => rI0 (fun i j => .int (i + j)) x y H Q ∨ (∃ i j, x = .str i ∧ y = .str j ∧ i.length + j.length ≤ sizeLine ∧ Q (.str (i ++ j)) H) ∨ rCat x y H Q ∨ rCatA K x y H Q
theorem op_addP : OpR X (binaryOp .Add) (rAddP X.K) := OpR.or op_add (OpR.or op_add_str (OpR.or op_cat op_catA))
theorem fresh_is {K : PySem.W.Frag} {L : Own} {H : Hp} (hL : ∀ a, L a → H a ≠ none) {p : Addr} (hp : H p = none) : ¬ L p := fun z => hL p z hp
theorem Is.newL {K : PySem.W.Frag} {L : Own} {H : Hp} (hL : ∀ a, L a → H a ≠ none) {p : Addr} (hp : H p = none) {vs : List V} {ds : List PyData} (h : IsAll K L H vs ds) : Is K L (upd H p (.lst vs)) (.ref p) (.list ds) :=
  .lst (fun z => hL p z hp) upd_same (h.same (Same.new hp))
theorem Is.newT {K : PySem.W.Frag} {L : Own} {H : Hp} (hL : ∀ a, L a → H a ≠ none) {p : Addr} (hp : H p = none) {vs : List V} {ds : List PyData} (h : IsAll K L H vs ds) : Is K L (upd H p (.tup vs)) (.ref p) (.tuple ds) :=
  .tup (.inl ⟨fun z => hL p z hp, upd_same⟩) (h.same (Same.new hp))
theorem dr_add : DR2 X (rAddP X.K) pyAdd := by
  intro L H x y d e z hL ix iy hz Q hq
  unfold pyAdd at hz
  split at hz
  · have e := ret_ok hz
    subst e
    exact .inl ⟨_, _, ix.intD, iy.intD, hq _ H (Same.refl H) (.int _)⟩
  · obtain ⟨c, e⟩ := if_ok hz
    subst e
    exact .inr (.inl ⟨_, _, ix.strD, iy.strD, szl c, hq _ H (Same.refl H) (.str _)⟩)
  · rename_i xs ys
    obtain ⟨c, e⟩ := if_ok hz
    subst e
    obtain ⟨a, us, rfl, h1, h2⟩ := ix.tupD
    obtain ⟨b, vs, rfl, h3, h4⟩ := iy.tupD
    refine .inr (.inr (.inr ⟨a, b, us, vs, rfl, rfl, h1, h3, szl (by rw [h2.len, h4.len]; exact c), fun e0 => ?_, fun _ e0 => ?_, fun _ _ p hp => ?_⟩))
    · subst e0
      cases h2
      exact hq _ H (Same.refl H) iy
    · subst e0
      cases h4
      rw [List.append_nil] at hq
      exact hq _ H (Same.refl H) ix
    · exact hq _ _ (Same.new hp) (Is.newT hL hp (h2.append h4))
  · rename_i xs ys
    obtain ⟨c, e⟩ := if_ok hz
    subst e
    obtain ⟨a, us, rfl, n1, h1, h2⟩ := ix.lstD
    obtain ⟨b, vs, rfl, n2, h3, h4⟩ := iy.lstD
    exact .inr (.inr (.inl ⟨a, b, us, vs, rfl, rfl, h1, h3, szl (by rw [h2.len, h4.len]; exact c), fun p hp => hq _ _ (Same.new hp) (Is.newL hL hp (h2.append h4))⟩))
  · cases hz
theorem if_er {α : Type} {c : Prop} [Decidable c] {m : M α} {n : Ex} (h : m ≠ some (.er n)) : (if c then m else none) ≠ some (.er n) := by
  by_cases hc : c
  · rw [if_pos hc]; exact h
  · rw [if_neg hc]; exact fun z => nomatch z
theorem ret_er {α : Type} {a : α} {n : Ex} : ret a ≠ some (.er n) := fun z => by
  injection z with z
  cases z
theorem none_er {α : Type} {n : Ex} : (none : M α) ≠ some (.er n) := fun z => nomatch z
theorem ne_add : NoEr2 pyAdd := by
  intro d e n
  unfold pyAdd
  split
  · exact ret_er
  · exact if_er ret_er
  · exact if_er ret_er
  · exact if_er ret_er
  · exact none_er
theorem dr_sub : DR2 X (rI0 fun i j => .int (i - j)) pySub := by
  intro L H x y d e z hL ix iy hz Q hq
  unfold pySub at hz
  split at hz
  · have e := ret_ok hz
    subst e
    exact ⟨_, _, ix.intD, iy.intD, hq _ H (Same.refl H) (.int _)⟩
  · cases hz
theorem ne_sub : NoEr2 pySub := by
  intro d e n
  unfold pySub
  split
  · exact ret_er
  · exact none_er
def rMulP : R2 := fun x y H Q => rI CMul (fun i j => .int (i * j)) x y H Q ∨ rRep x y H Q
theorem op_mulP : OpR X (binaryOp .Mult) rMulP := OpR.or op_mul op_rep
theorem dr_mul : DR2 X rMulP pyMul := by
  intro L H x y d e z hL ix iy hz Q hq
  unfold pyMul at hz
  split at hz
  · obtain ⟨c, e⟩ := if_ok hz
    subst e
    exact .inl ⟨_, _, ix.intD, iy.intD, c, hq _ H (Same.refl H) (.int _)⟩
  · rename_i xs k
    obtain ⟨c, e⟩ := if_ok hz
    subst e
    obtain ⟨a, us, rfl, n1, h1, h2⟩ := ix.lstD
    exact .inr ⟨a, k, us, rfl, iy.intD, h1, by omega, by omega, szl (by rw [h2.len]; exact c.2.2), fun p hp => hq _ _ (Same.new hp) (Is.newL hL hp (h2.rep _))⟩
  · cases hz
theorem ne_mul : NoEr2 pyMul := by
  intro d e n
  unfold pyMul
  split
  · exact if_er ret_er
  · exact if_er ret_er
  · exact none_er
theorem dr_div : DR2 X (rI CDiv fun i j => .int (i / j)) pyDiv := by
  intro L H x y d e z hL ix iy hz Q hq
  unfold pyDiv at hz
  split at hz
  · obtain ⟨c, e⟩ := if_ok hz
    subst e
    exact ⟨_, _, ix.intD, iy.intD, c, hq _ H (Same.refl H) (.int _)⟩
  · cases hz
theorem ne_div : NoEr2 pyDiv := by
  intro d e n
  unfold pyDiv
  split
  · exact if_er ret_er
  · exact none_er
theorem dr_mod : DR2 X (rI (fun _ j => 0 < j) fun i j => .int (i % j)) pyMod := by
  intro L H x y d e z hL ix iy hz Q hq
  unfold pyMod at hz
  split at hz
  · obtain ⟨c, e⟩ := if_ok hz
    subst e
    exact ⟨_, _, ix.intD, iy.intD, c, hq _ H (Same.refl H) (.int _)⟩
  · cases hz
theorem ne_mod : NoEr2 pyMod := by
  intro d e n
  unfold pyMod
  split
  · exact if_er ret_er
  · exact none_er
theorem dr_pow : DR2 X (rI CPow fun i j => .int (i ^ j.toNat)) pyPow := by
  intro L H x y d e z hL ix iy hz Q hq
  unfold pyPow at hz
  split at hz
  · obtain ⟨c, e⟩ := if_ok hz
    subst e
    exact ⟨_, _, ix.intD, iy.intD, c, hq _ H (Same.refl H) (.int _)⟩
  · cases hz
theorem ne_pow : NoEr2 pyPow := by
  intro d e n
  unfold pyPow
  split
  · exact if_er ret_er
  · exact none_er
variable {cl : Ex → Addr} {W : WX} {e a b c o : Expr} {f g h : Rho → M PyData} {pos : Pos}
theorem ge_add (ha : GE X cl W a f) (hb : GE X cl W b g) : GE X cl W (.BinOp a .Add b pos) (m2 pyAdd f g) := ge_op op_addP dr_add ne_add ha hb
theorem ge_sub (ha : GE X cl W a f) (hb : GE X cl W b g) : GE X cl W (.BinOp a .Sub b pos) (m2 pySub f g) := ge_op op_sub dr_sub ne_sub ha hb
theorem ge_mul (ha : GE X cl W a f) (hb : GE X cl W b g) : GE X cl W (.BinOp a .Mult b pos) (m2 pyMul f g) := ge_op op_mulP dr_mul ne_mul ha hb
theorem ge_div (ha : GE X cl W a f) (hb : GE X cl W b g) : GE X cl W (.BinOp a .FloorDiv b pos) (m2 pyDiv f g) := ge_op op_fdiv dr_div ne_div ha hb
theorem ge_mod (ha : GE X cl W a f) (hb : GE X cl W b g) : GE X cl W (.BinOp a .Mod b pos) (m2 pyMod f g) := ge_op op_mod dr_mod ne_mod ha hb
theorem ge_pow (ha : GE X cl W a f) (hb : GE X cl W b g) : GE X cl W (.BinOp a .Pow b pos) (m2 pyPow f g) := ge_op op_pow dr_pow ne_pow ha hb
theorem ge_neg (ha : GE X cl W a f) : GE X cl W (.UnaryOp .USub a pos) (m1 pyNeg f) := by
  obtain ⟨ta, p, d⟩ := ha
  refine ⟨_, pe_un un_neg p, den_1 (fun L H x d z hL ix hz Q hq => ?_) (fun d n => ?_) d⟩
  · unfold pyNeg at hz
    split at hz
    · have e := ret_ok hz
      subst e
      exact ⟨_, ix.intD, hq _ H (Same.refl H) (.int _)⟩
    · cases hz
  · unfold pyNeg
    split
    · exact ret_er
    · exact none_er

/-! ### comparisons -/
def iCmp (p : Int → Int → Bool) : PyData → PyData → M Bool
  | .int i, .int j => ret (p i j)
  | _, _ => none
theorem dr_int {p : Int → Int → Bool} : DRB X (rI0 fun i j => .bl (p i j)) (iCmp p) := by
  intro L H x y d e z ix iy hz Q hq
  unfold iCmp at hz
  split at hz
  · have e := ret_ok hz
    subst e
    exact ⟨_, _, ix.intD, iy.intD, hq H (Same.refl H)⟩
  · cases hz
theorem ne_int {p : Int → Int → Bool} : NoEr2 (iCmp p) := by
  intro d e n
  unfold iCmp
  split
  · exact ret_er
  · exact none_er
abbrev pyLt := iCmp fun i j => decide (i < j)
abbrev pyLe := iCmp fun i j => decide (i ≤ j)
abbrev pyGt := iCmp fun i j => decide (j < i)
abbrev pyGe := iCmp fun i j => decide (j ≤ i)
def pyEq (d e : PyData) : M Bool := if d.plain = true ∧ e.plain = true ∧ min d.depth e.depth ≤ 64 then ret (PyData.eqv d e) else none
def pyNe (d e : PyData) : M Bool := if d.plain = true ∧ e.plain = true ∧ min d.depth e.depth ≤ 64 then ret (!PyData.eqv d e) else none
def rEqP (K : PySem.W.Frag) : R2 := fun x y H Q => ∃ d e, Dp K H x d ∧ Dp K H y e ∧ d.plain = true ∧ e.plain = true ∧ min d.depth e.depth ≤ 64 ∧ Q (.bl (PyData.eqv d e)) H
def rNeP (K : PySem.W.Frag) : R2 := fun x y H Q => ∃ d e, Dp K H x d ∧ Dp K H y e ∧ d.plain = true ∧ e.plain = true ∧ min d.depth e.depth ≤ 64 ∧ Q (.bl (!PyData.eqv d e)) H
theorem op_eqP (hu : X.A.units + 64 < cLine) : OpR X (compareOp .Eq) (rEqP X.K) := by
  intro pins s σ H x y v u Q I rx ry h
  obtain ⟨d, e, hd, he, sd, se, hm, q⟩ := h
  obtain ⟨as, r1⟩ := Dp.reads I d x v hd rx
  obtain ⟨bs, r2⟩ := Dp.reads I e y u he ry
  exact PySem.SeqAt.eq_plain r1 r2 sd se (by omega) ⟨.bl _, H, I, rfl, q⟩
theorem op_neP (hu : X.A.units + 64 < cLine) : OpR X (compareOp .NotEq) (rNeP X.K) := by
  intro pins s σ H x y v u Q I rx ry h
  obtain ⟨d, e, hd, he, sd, se, hm, q⟩ := h
  obtain ⟨as, r1⟩ := Dp.reads I d x v hd rx
  obtain ⟨bs, r2⟩ := Dp.reads I e y u he ry
  exact PySem.SeqAt.ne_plain r1 r2 sd se (by omega) ⟨.bl _, H, I, rfl, q⟩
theorem dr_eq : DRB X (rEqP X.K) pyEq := by
  intro L H x y d e z ix iy hz Q hq
  obtain ⟨c, e⟩ := if_ok hz
  subst e
  exact ⟨d, _, ix.dp c.1, iy.dp c.2.1, c.1, c.2.1, c.2.2, hq H (Same.refl H)⟩
theorem dr_ne : DRB X (rNeP X.K) pyNe := by
  intro L H x y d e z ix iy hz Q hq
  obtain ⟨c, e⟩ := if_ok hz
  subst e
  exact ⟨d, _, ix.dp c.1, iy.dp c.2.1, c.1, c.2.1, c.2.2, hq H (Same.refl H)⟩
theorem ne_eq : NoEr2 pyEq := fun d e n => if_er ret_er
theorem ne_ne : NoEr2 pyNe := fun d e n => if_er ret_er
/-- x in (..), x in [..] -/
def pyIn : PyData → PyData → M Bool
  | d, .tuple ds => if d.plain = true ∧ PyData.plainAll ds = true ∧ min (PyData.depthAll ds) d.depth ≤ 60 then ret (ds.any fun z => PyData.eqv z d) else none
  | d, .list ds => if d.plain = true ∧ PyData.plainAll ds = true ∧ min (PyData.depthAll ds) d.depth ≤ 60 then ret (ds.any fun z => PyData.eqv z d) else none
  | .str c, .str z => if c.length = 1 then ret (decide (c.cps.getD 0 0 ∈ z.cps.toList)) else none
  | _, _ => none
def pyNotIn (d e : PyData) : M Bool := bnd (pyIn d e) fun b => ret (!b)
def rInP (K : PySem.W.Frag) (neg : Bool) : R2 := fun x y H Q => (∃ d ds, Dp K H x d ∧ (Dp K H y (.tuple ds) ∨ Dp K H y (.list ds)) ∧ d.plain = true ∧ PyData.plainAll ds = true ∧ min (PyData.depthAll ds) d.depth ≤ 60 ∧ Q (.bl (neg ^^ ds.any fun z => PyData.eqv z d)) H) ∨
  (∃ (c : Nat) (z : Str), x = .str ⟨#[c]⟩ ∧ y = .str z ∧ Q (.bl (neg ^^ decide (c ∈ z.cps.toList))) H)
theorem op_inP (hu : X.A.units + 64 < cLine) : OpR X (compareOp .In) (rInP X.K false) := by
  intro pins s σ H x y v u Q I rx ry h
  rcases h with ⟨d, ds, hd, he, sd, se, hm, q⟩ | ⟨c, z, h1, h2, q⟩
  · obtain ⟨as, r1⟩ := Dp.reads I d x v hd rx
    rcases he with he | he
    · obtain ⟨bs, r2⟩ := Dp.reads I _ y u he ry
      exact PySem.SeqAt.in_tuple_data r2 r1 se sd (by omega) ⟨.bl _, H, I, rfl, by simpa using q⟩
    · obtain ⟨bs, r2⟩ := Dp.reads I _ y u he ry
      exact PySem.SeqAt.in_list_data r2 r1 se sd (by omega) ⟨.bl _, H, I, rfl, by simpa using q⟩
  · exact op_in_sign pins s σ H x y v u Q I rx ry ⟨c, z, h1, h2, by simpa using q⟩
theorem op_notInP (hu : X.A.units + 64 < cLine) : OpR X (compareOp .NotIn) (rInP X.K true) := by
  intro pins s σ H x y v u Q I rx ry h
  rcases h with ⟨d, ds, hd, he, sd, se, hm, q⟩ | ⟨c, z, h1, h2, q⟩
  · obtain ⟨as, r1⟩ := Dp.reads I d x v hd rx
    rcases he with he | he
    · obtain ⟨bs, r2⟩ := Dp.reads I _ y u he ry
      exact PySem.SeqAt.notIn_tuple_data r2 r1 se sd (by omega) ⟨.bl _, H, I, rfl, by simpa using q⟩
    · obtain ⟨bs, r2⟩ := Dp.reads I _ y u he ry
      exact PySem.SeqAt.notIn_list_data r2 r1 se sd (by omega) ⟨.bl _, H, I, rfl, by simpa using q⟩
  · exact op_notIn_sign pins s σ H x y v u Q I rx ry ⟨c, z, h1, h2, by simpa using q⟩
theorem str1 {c : Str} (h : c.length = 1) : c = ⟨#[c.cps.getD 0 0]⟩ := by
  obtain ⟨⟨l⟩⟩ := c
  have h' : l.length = 1 := h
  match l, h' with
  | [x], _ => rfl
theorem dr_inX {neg : Bool} {L : Own} {H : Hp} {x y : V} {d e : PyData} {z : Bool} (ix : Is X.K L H x d) (iy : Is X.K L H y e) (hz : pyIn d e = some (.ok z)) {Q : VK} (hq : Q (.bl (neg ^^ z)) H) : rInP X.K neg x y H Q := by
  unfold pyIn at hz
  split at hz
  · obtain ⟨c, e⟩ := if_ok hz
    subst e
    exact .inl ⟨d, _, ix.dp c.1, .inl (iy.dp (by simp only [PyData.plain]; exact c.2.1)), c.1, c.2.1, c.2.2, hq⟩
  · obtain ⟨c, e⟩ := if_ok hz
    subst e
    exact .inl ⟨d, _, ix.dp c.1, .inr (iy.dp (by simp only [PyData.plain]; exact c.2.1)), c.1, c.2.1, c.2.2, hq⟩
  · rename_i c z'
    obtain ⟨hc, e⟩ := if_ok hz
    subst e
    refine .inr ⟨c.cps.getD 0 0, z', ?_, iy.strD, hq⟩
    rw [← str1 hc]
    exact ix.strD
  · cases hz
theorem dr_in : DRB X (rInP X.K false) pyIn := by
  intro L H x y d e z ix iy hz Q hq
  refine dr_inX ix iy hz ?_
  rw [Bool.false_xor]
  exact hq H (Same.refl H)
theorem dr_notIn : DRB X (rInP X.K true) pyNotIn := by
  intro L H x y d e z ix iy hz Q hq
  obtain ⟨b, h1, h2⟩ := bnd_ok_inv hz
  have e := ret_ok h2
  subst e
  refine dr_inX ix iy h1 ?_
  rw [Bool.true_xor]
  exact hq H (Same.refl H)
theorem ne_in : NoEr2 pyIn := by
  intro d e n
  unfold pyIn
  split
  · exact if_er ret_er
  · exact if_er ret_er
  · exact if_er ret_er
  · exact none_er
theorem ne_notIn : NoEr2 pyNotIn := by
  intro d e n z
  rcases bnd_er_inv z with h | ⟨b, _, h⟩
  · exact ne_in d e n h
  · exact ret_er h
/-- x is None -/
def isNone (d : PyData) : Bool := match d with
  | .none => true
  | _ => false
def pyIs (d e : PyData) : M Bool := match e with
  | .none => ret (isNone d)
  | _ => none
def pyIsNot (d e : PyData) : M Bool := match e with
  | .none => ret (!isNone d)
  | _ => none
theorem Is.isNone {K : PySem.W.Frag} {L : Own} {H : Hp} {v : V} {d : PyData} (h : Is K L H v d) : decide (v = V.non) = VW.isNone d := by
  cases h <;> simp [VW.isNone]
theorem dr_is : DRB X (fun x y H Q => y = .non ∧ Q (.bl (decide (x = .non))) H) pyIs := by
  intro L H x y d e z ix iy hz Q hq
  unfold pyIs at hz
  split at hz
  · have e := ret_ok hz
    cases iy
    refine ⟨rfl, ?_⟩
    rw [ix.isNone, e]
    exact hq H (Same.refl H)
  · cases hz
theorem dr_isnot : DRB X (fun x y H Q => y = .non ∧ Q (.bl (!decide (x = .non))) H) pyIsNot := by
  intro L H x y d e z ix iy hz Q hq
  unfold pyIsNot at hz
  split at hz
  · have e := ret_ok hz
    cases iy
    refine ⟨rfl, ?_⟩
    rw [ix.isNone, e]
    exact hq H (Same.refl H)
  · cases hz
theorem ne_is : NoEr2 pyIs := by
  intro d e n
  unfold pyIs
  split
  · exact ret_er
  · exact none_er
theorem ne_isnot : NoEr2 pyIsNot := by
  intro d e n
  unfold pyIsNot
  split
  · exact ret_er
  · exact none_er
section
variable (ha : GE X cl W a f) (hb : GE X cl W b g) (hc : GE X cl W c h)
include ha hb
theorem ge_lt : GE X cl W (.Compare a [.Lt] [b] pos) (mB (m2B pyLt f g)) := ge_cmp op_lt dr_int ne_int ha hb (nomark _)
theorem ge_le : GE X cl W (.Compare a [.LtE] [b] pos) (mB (m2B pyLe f g)) := ge_cmp op_le dr_int ne_int ha hb (nomark _)
theorem ge_gt : GE X cl W (.Compare a [.Gt] [b] pos) (mB (m2B pyGt f g)) := ge_cmp op_gt dr_int ne_int ha hb (nomark _)
theorem ge_ge : GE X cl W (.Compare a [.GtE] [b] pos) (mB (m2B pyGe f g)) := ge_cmp op_ge dr_int ne_int ha hb (nomark _)
theorem gt_lt : GT X cl W (.Compare a [.Lt] [b] pos) (m2B pyLt f g) := gt_cmp op_lt dr_int ne_int ha hb (nomark _)
theorem gt_le : GT X cl W (.Compare a [.LtE] [b] pos) (m2B pyLe f g) := gt_cmp op_le dr_int ne_int ha hb (nomark _)
theorem gt_gt : GT X cl W (.Compare a [.Gt] [b] pos) (m2B pyGt f g) := gt_cmp op_gt dr_int ne_int ha hb (nomark _)
theorem gt_ge : GT X cl W (.Compare a [.GtE] [b] pos) (m2B pyGe f g) := gt_cmp op_ge dr_int ne_int ha hb (nomark _)
theorem ge_is : GE X cl W (.Compare a [.Is] [b] pos) (mB (m2B pyIs f g)) := ge_cmp op_isN dr_is ne_is ha hb (nomark _)
theorem gt_is : GT X cl W (.Compare a [.Is] [b] pos) (m2B pyIs f g) := gt_cmp op_isN dr_is ne_is ha hb (nomark _)
theorem ge_isnot : GE X cl W (.Compare a [.IsNot] [b] pos) (mB (m2B pyIsNot f g)) := ge_cmp op_notN dr_isnot ne_isnot ha hb (nomark _)
theorem gt_isnot : GT X cl W (.Compare a [.IsNot] [b] pos) (m2B pyIsNot f g) := gt_cmp op_notN dr_isnot ne_isnot ha hb (nomark _)
theorem ge_eq (hu : X.A.units + 64 < cLine) : GE X cl W (.Compare a [.Eq] [b] pos) (mB (m2B pyEq f g)) := ge_cmp (op_eqP hu) dr_eq ne_eq ha hb (nomark _)
theorem gt_eq (hu : X.A.units + 64 < cLine) : GT X cl W (.Compare a [.Eq] [b] pos) (m2B pyEq f g) := gt_cmp (op_eqP hu) dr_eq ne_eq ha hb (nomark _)
theorem ge_ne (hu : X.A.units + 64 < cLine) : GE X cl W (.Compare a [.NotEq] [b] pos) (mB (m2B pyNe f g)) := ge_cmp (op_neP hu) dr_ne ne_ne ha hb (nomark _)
theorem gt_ne (hu : X.A.units + 64 < cLine) : GT X cl W (.Compare a [.NotEq] [b] pos) (m2B pyNe f g) := gt_cmp (op_neP hu) dr_ne ne_ne ha hb (nomark _)
theorem ge_in (hu : X.A.units + 64 < cLine) (hm : behindInMarks .In b = false := by rfl) : GE X cl W (.Compare a [.In] [b] pos) (mB (m2B pyIn f g)) := ge_cmp (op_inP hu) dr_in ne_in ha hb hm
theorem gt_in (hu : X.A.units + 64 < cLine) (hm : behindInMarks .In b = false := by rfl) : GT X cl W (.Compare a [.In] [b] pos) (m2B pyIn f g) := gt_cmp (op_inP hu) dr_in ne_in ha hb hm
theorem ge_notIn (hu : X.A.units + 64 < cLine) (hm : behindInMarks .NotIn b = false := by rfl) : GE X cl W (.Compare a [.NotIn] [b] pos) (mB (m2B pyNotIn f g)) := ge_cmp (op_notInP hu) dr_notIn ne_notIn ha hb hm
theorem gt_notIn (hu : X.A.units + 64 < cLine) (hm : behindInMarks .NotIn b = false := by rfl) : GT X cl W (.Compare a [.NotIn] [b] pos) (m2B pyNotIn f g) := gt_cmp (op_notInP hu) dr_notIn ne_notIn ha hb hm
end

/-! ### subscripts -/
def ofO {α β : Type} (o : Option α) (k : α → β) : M β := match o with
  | some d => ret (k d)
  | none => none
def pyIx : PyData → PyData → M PyData
  | .list ds, .int i => ofO (atI ds i) fun d => d
  | .tuple ds, .int i => ofO (atI ds i) fun d => d
  | .dict [(.none, .list ds)], .int i => ofO (atI ds i) fun d => d
  | .str z, .int i => if z.length ≤ 16777216 then ofO (atI z.cps.toList i) (fun c => .str ⟨#[c]⟩) else none
  | _, _ => none
def rIxP (K : PySem.W.Frag) : R2 := fun x y H Q => rIxL K x y H Q ∨ rIxT K x y H Q ∨ rIxS x y H Q
theorem ix_P : IxR X (rIxP X.K) := IxR.or ix_list (IxR.or ix_tup ix_str)
theorem IsAll.atI {K : PySem.W.Frag} {L : Own} {H : Hp} {vs : List V} {ds : List PyData} {i : Int} {d : PyData} (h : IsAll K L H vs ds) (e : L2.atI ds i = some d) : ∃ v, L2.atI vs i = some v ∧ Is K L H v d := by
  unfold L2.atI at e ⊢
  rw [h.len]
  cases q : ixN ds.length i with
  | none => rw [q] at e; cases e
  | some j =>
    rw [q] at e
    obtain ⟨v, h1, h2⟩ := h.get (i := j) e
    exact ⟨v, h1, h2⟩
theorem opt_ok {α β : Type} {o : Option α} {k : α → β} {z : β} (h : ofO o k = some (.ok z)) : ∃ d, o = some d ∧ k d = z := by
  cases o with
  | none => cases h
  | some d => exact ⟨d, rfl, ret_ok h⟩
theorem opt_er {α β : Type} {o : Option α} {k : α → β} {n : Ex} : ofO o k ≠ some (.er n) := by
  cases o with
  | none => exact none_er
  | some d => exact ret_er
theorem dr_ix : DR2 X (rIxP X.K) pyIx := by
  intro L H x y d e z hL ix iy hz Q hq
  unfold pyIx at hz
  split at hz
  · obtain ⟨d, h1, rfl⟩ := opt_ok (k := fun d => d) hz
    obtain ⟨a, xs, rfl, n, h2, h3⟩ := ix.lstD
    obtain ⟨v, h4, h5⟩ := h3.atI h1
    exact .inl ⟨a, xs, _, v, rfl, iy.intD, SqL.of h2, h4, hq v H (Same.refl H) h5⟩
  · obtain ⟨d, h1, rfl⟩ := opt_ok (k := fun d => d) hz
    obtain ⟨a, xs, rfl, h2, h3⟩ := ix.tupD
    obtain ⟨v, h4, h5⟩ := h3.atI h1
    exact .inr (.inl ⟨a, xs, _, v, rfl, iy.intD, h2, h4, hq v H (Same.refl H) h5⟩)
  · obtain ⟨d, h1, rfl⟩ := opt_ok (k := fun d => d) hz
    obtain ⟨a, xs, rfl, h2, h3⟩ := ix.scrD
    obtain ⟨v, h4, h5⟩ := h3.atI h1
    exact .inl ⟨a, xs, _, v, rfl, iy.intD, h2, h4, hq v H (Same.refl H) h5⟩
  · rename_i zs i
    by_cases hc : zs.length ≤ 16777216
    · rw [if_pos hc] at hz
      obtain ⟨c, h1, rfl⟩ := opt_ok (k := fun c => PyData.str ⟨#[c]⟩) hz
      exact .inr (.inr ⟨zs, i, c, ix.strD, iy.intD, szl hc, h1, hq _ H (Same.refl H) (.str _)⟩)
    · rw [if_neg hc] at hz
      cases hz
  · cases hz
theorem ne_ix : NoEr2 pyIx := by
  intro d e n
  unfold pyIx
  split
  · exact opt_er (k := fun d => d)
  · exact opt_er (k := fun d => d)
  · exact opt_er (k := fun d => d)
  · exact if_er (opt_er (k := fun c => PyData.str ⟨#[c]⟩))
  · exact none_er
theorem ge_ix (ha : GE X cl W a f) (hb : GE X cl W b g) (hs : PlainIx b := by exact fun _ _ => rfl) : GE X cl W (.Subscript a b pos) (m2 pyIx f g) := by
  obtain ⟨ta, p1, d1⟩ := ha
  obtain ⟨tb, p2, d2⟩ := hb
  exact ⟨_, pe_ix ix_P p1 p2 hs, den_op dr_ix ne_ix d1 d2⟩

/-! ### calls of built-ins -/
variable {x : Str} {p : Pos} {id T : String} {r : List V → Hp → VK → Prop} {es : List Expr} {fa : Rho → M (List PyData)} {F : List PyData → M PyData} {FF : List PyData → M (List PyData)}
def DRC (X : Cx) (r : List V → Hp → VK → Prop) (F : List PyData → M PyData) : Prop := ∀ (L : Own) (H : Hp) (vs : List V) (ds : List PyData) (z : PyData), (∀ a, L a → H a ≠ none) → IsAll X.K L H vs ds → F ds = some (.ok z) →
  ∀ Q : VK, (∀ v H', Same H H' → Is X.K L H' v z → Q v H') → r vs H Q
def DRCF (X : Cx) (r : List V → Hp → VK → Prop) (F : List PyData → M (List PyData)) : Prop := ∀ (L : Own) (H : Hp) (vs : List V) (ds zs : List PyData), (∀ a, L a → H a ≠ none) → IsAll X.K L H vs ds → F ds = some (.ok zs) →
  ∀ Q : VK, (∀ p xs H', H p = none → Same H H' → H' p = some (.lst xs) → IsAll X.K (fun a => L a ∨ a = p) H' xs zs → Q (.ref p) H') → r vs H Q
def NoEr1 {α β : Type} (F : α → M β) : Prop := ∀ d n, F d ≠ some (.er n)
theorem den_call {ta : TA} (hr : DRC X r F) (hn : NoEr1 F) (ha : DenA X.K cl W ta fa) : DenE X.K cl W (tCB r ta) (mCall F fa) := by
  intro Hb L0 α ρ σ H E hne Q hq
  refine ha E (bnd_ne hne) _ ⟨fun ds vs H1 e1 s1 i1 => ?_, fun n H1 e1 s1 => hq.2 n H1 (bnd_raise e1) s1⟩
  have n1 := bnd_at hne e1
  have q1 : mCall F fa ρ = _ := bnd_eq e1
  cases ez : F ds with
  | none => exact absurd ez n1
  | some z =>
    cases z with
    | er n => exact absurd ez (hn ds n)
    | ok z => exact hr _ H1 vs ds z (E.mono s1).dom i1 ez Q fun v H2 s2 i2 => hq.1 z v H2 (q1.trans ez) (s1.trans s2) i2
theorem den_callF {ta : TA} (hr : DRCF X r FF) (hn : NoEr1 FF) (ha : DenA X.K cl W ta fa) : DenF X.K cl W (tCB r ta) (mCallF FF fa) := by
  intro Hb L0 α ρ σ H E hne Q hq
  refine ha E (bnd_ne hne) _ ⟨fun ds vs H1 e1 s1 i1 => ?_, fun n H1 e1 s1 => hq.2 n H1 (bnd_raise e1) s1⟩
  have n1 := bnd_at hne e1
  have q1 : mCallF FF fa ρ = _ := bnd_eq e1
  cases ez : FF ds with
  | none => exact absurd ez n1
  | some z =>
    cases z with
    | er n => exact absurd ez (hn ds n)
    | ok z => exact hr _ H1 vs ds z (E.mono s1).dom i1 ez Q fun p xs H2 hp s2 hx i2 => hq.1 z p xs H2 (q1.trans ez) (s1.free hp) (s1.trans s2) hx i2
theorem ge_callB (hc : CallR X (.builtin id) r) (hr : DRC X r F) (hn : NoEr1 F) (hm : X.mg x = none) (hv : bootBuiltins x = some (.builtin id)) (ha : GA X cl W (e :: es) fa) (hg : Gl X x := by rfl) (hn' : x ≠ "__name__" := by decide) (hdb : (x == ("__debug__" : Str)) = false := by decide)
    (he : starEach (e :: es) X.env = (false, eval e X.env) :: starEach es X.env := by rfl) (hpl : (backTo pos (starEach es X.env)).any (·.1) = false := by rfl) : GE X cl W (.Call (.Name x p) (e :: es) [] pos) (mCall F fa) := by
  obtain ⟨ta, p1, d1⟩ := ha
  exact ⟨_, pe_callB hc hg hm hv p1 hn' hdb he hpl, den_call hr hn d1⟩
theorem gf_callB (hc : CallR X (.builtin id) r) (hr : DRCF X r FF) (hn : NoEr1 FF) (hm : X.mg x = none) (hv : bootBuiltins x = some (.builtin id)) (ha : GA X cl W (e :: es) fa) (hg : Gl X x := by rfl) (hn' : x ≠ "__name__" := by decide) (hdb : (x == ("__debug__" : Str)) = false := by decide)
    (he : starEach (e :: es) X.env = (false, eval e X.env) :: starEach es X.env := by rfl) (hpl : (backTo pos (starEach es X.env)).any (·.1) = false := by rfl) : GF X cl W (.Call (.Name x p) (e :: es) [] pos) (mCallF FF fa) := by
  obtain ⟨ta, p1, d1⟩ := ha
  exact ⟨_, pe_callB hc hg hm hv p1 hn' hdb he hpl, den_callF hr hn d1⟩
theorem ge_callTy (hc : CallR X (.type T) r) (hr : DRC X r F) (hn : NoEr1 F) (hm : X.mg x = none) (hv : bootBuiltins x = some (.type T)) (ha : GA X cl W (e :: es) fa) (hg : Gl X x := by rfl) (hn' : x ≠ "__name__" := by decide) (hdb : (x == ("__debug__" : Str)) = false := by decide)
    (he : starEach (e :: es) X.env = (false, eval e X.env) :: starEach es X.env := by rfl) (hpl : (backTo pos (starEach es X.env)).any (·.1) = false := by rfl) : GE X cl W (.Call (.Name x p) (e :: es) [] pos) (mCall F fa) := by
  obtain ⟨ta, p1, d1⟩ := ha
  exact ⟨_, pe_callTy hc hg hm hv p1 hn' hdb he hpl, den_call hr hn d1⟩
theorem gf_callTy (hc : CallR X (.type T) r) (hr : DRCF X r FF) (hn : NoEr1 FF) (hm : X.mg x = none) (hv : bootBuiltins x = some (.type T)) (ha : GA X cl W (e :: es) fa) (hg : Gl X x := by rfl) (hn' : x ≠ "__name__" := by decide) (hdb : (x == ("__debug__" : Str)) = false := by decide)
    (he : starEach (e :: es) X.env = (false, eval e X.env) :: starEach es X.env := by rfl) (hpl : (backTo pos (starEach es X.env)).any (·.1) = false := by rfl) : GF X cl W (.Call (.Name x p) (e :: es) [] pos) (mCallF FF fa) := by
  obtain ⟨ta, p1, d1⟩ := ha
  exact ⟨_, pe_callTy hc hg hm hv p1 hn' hdb he hpl, den_callF hr hn d1⟩
/-- len -/
def seqOf : PyData → Option (List PyData)
  | .list ds => some ds
  | .tuple ds => some ds
  | .dict [(.none, .list ds)] => some ds
  | _ => none
theorem Is.seq {K : PySem.W.Frag} {L : Own} {H : Hp} {v : V} {d : PyData} {ds : List PyData} (h : Is K L H v d) (e : seqOf d = some ds) : ∃ a xs, v = .ref a ∧ (SqL K H a xs ∨ SqT K H a xs) ∧ IsAll K L H xs ds := by
  unfold seqOf at e
  split at e
  · cases e
    obtain ⟨a, xs, h1, _, h2, h3⟩ := h.lstD
    exact ⟨a, xs, h1, .inl (SqL.of h2), h3⟩
  · cases e
    obtain ⟨a, xs, h1, h2, h3⟩ := h.tupD
    exact ⟨a, xs, h1, .inr h2, h3⟩
  · cases e
    obtain ⟨a, xs, h1, h2, h3⟩ := h.scrD
    exact ⟨a, xs, h1, .inl h2, h3⟩
  · cases e
theorem IsAll.one {K : PySem.W.Frag} {L : Own} {H : Hp} {vs : List V} {d : PyData} (h : IsAll K L H vs [d]) : ∃ v, vs = [v] ∧ Is K L H v d := by
  cases h with
  | cons h1 h2 => cases h2; exact ⟨_, rfl, h1⟩
theorem IsAll.two {K : PySem.W.Frag} {L : Own} {H : Hp} {vs : List V} {d e : PyData} (h : IsAll K L H vs [d, e]) : ∃ v w, vs = [v, w] ∧ Is K L H v d ∧ Is K L H w e := by
  cases h with
  | cons h1 h2 =>
    obtain ⟨w, rfl, h3⟩ := h2.one
    exact ⟨_, w, rfl, h1, h3⟩
def pyLen : List PyData → M PyData
  | [.str z] => if z.length ≤ 16777216 then ret (.int z.length) else none
  | [d] => ofO (seqOf d) fun ds => .int ds.length
  | _ => none
def rLenP (K : PySem.W.Frag) : List V → Hp → VK → Prop := fun xs H Q => (∃ p ys, xs = [.ref p] ∧ (SqL K H p ys ∨ SqT K H p ys) ∧ Q (.int ys.length) H) ∨ (∃ z, xs = [.str z] ∧ z.length ≤ sizeLine ∧ Q (.int z.length) H)
theorem call_lenP : CallR X (.builtin "len") (rLenP X.K) := CallR.or call_len_seq call_len_str
theorem dr_len : DRC X (rLenP X.K) pyLen := by
  intro L H vs ds z hL i hz Q hq
  unfold pyLen at hz
  split at hz
  · obtain ⟨c, e⟩ := if_ok hz
    obtain ⟨v, rfl, iv⟩ := i.one
    subst e
    cases iv
    exact .inr ⟨_, rfl, szl c, hq _ H (Same.refl H) (.int _)⟩
  · obtain ⟨ds, h1, rfl⟩ := opt_ok (k := fun (ds : List PyData) => PyData.int ds.length) hz
    obtain ⟨v, rfl, iv⟩ := i.one
    obtain ⟨a, xs, rfl, h2, h3⟩ := iv.seq h1
    refine .inl ⟨a, xs, rfl, h2, ?_⟩
    rw [h3.len]
    exact hq _ H (Same.refl H) (.int _)
  · cases hz
theorem ne_len : NoEr1 pyLen := by
  intro d n
  unfold pyLen
  split
  · exact if_er ret_er
  · exact opt_er (k := fun (ds : List PyData) => PyData.int ds.length)
  · exact none_er
theorem ge_len (hm : X.mg "len" = none) (ha : GA X cl W [e] fa) (hg : Gl X "len" := by rfl) (he : starEach [e] X.env = (false, eval e X.env) :: starEach [] X.env := by rfl) : GE X cl W (.Call (.Name "len" p) [e] [] pos) (mCall pyLen fa) :=
  ge_callB call_lenP dr_len ne_len hm PySem.boot_len ha hg (by decide) (by decide) he rfl
/-- abs, max and min of two ints -/
def pyAbs : List PyData → M PyData
  | [.int i] => ret (.int (if i < 0 then -i else i))
  | _ => none
def pyMax2 : List PyData → M PyData
  | [.int i, .int j] => ret (.int (if j > i then j else i))
  | _ => none
def pyMin2 : List PyData → M PyData
  | [.int i, .int j] => ret (.int (if j < i then j else i))
  | _ => none
theorem ge_abs (hm : X.mg "abs" = none) (ha : GA X cl W [e] fa) (hg : Gl X "abs" := by rfl) (he : starEach [e] X.env = (false, eval e X.env) :: starEach [] X.env := by rfl) : GE X cl W (.Call (.Name "abs" p) [e] [] pos) (mCall pyAbs fa) := by
  refine ge_callB call_abs (fun L H vs ds z hL i hz Q hq => ?_) (fun d n => ?_) hm (by decide +kernel) ha hg (by decide) (by decide) he rfl
  · unfold pyAbs at hz
    split at hz
    · have e := ret_ok hz
      obtain ⟨v, rfl, iv⟩ := i.one
      subst e
      cases iv
      exact ⟨_, rfl, hq _ H (Same.refl H) (.int _)⟩
    · cases hz
  · unfold pyAbs
    split
    · exact ret_er
    · exact none_er
theorem ge_max2 (hcalm : X.calm = true) (hm : X.mg "max" = none) (ha : GA X cl W [a, b] fa) (hg : Gl X "max" := by rfl) (he : starEach [a, b] X.env = (false, eval a X.env) :: starEach [b] X.env := by rfl) (hpl : (backTo pos (starEach [b] X.env)).any (·.1) = false := by rfl) : GE X cl W (.Call (.Name "max" p) [a, b] [] pos) (mCall pyMax2 fa) := by
  refine ge_callB (call_max2 hcalm) (fun L H vs ds z hL i hz Q hq => ?_) (fun d n => ?_) hm (by decide +kernel) ha hg (by decide) (by decide) he hpl
  · unfold pyMax2 at hz
    split at hz
    · have e := ret_ok hz
      obtain ⟨v, w, rfl, iv, iw⟩ := i.two
      subst e
      cases iv
      cases iw
      exact ⟨_, _, rfl, hq _ H (Same.refl H) (.int _)⟩
    · cases hz
  · unfold pyMax2
    split
    · exact ret_er
    · exact none_er
theorem ge_min2 (hcalm : X.calm = true) (hm : X.mg "min" = none) (ha : GA X cl W [a, b] fa) (hg : Gl X "min" := by rfl) (he : starEach [a, b] X.env = (false, eval a X.env) :: starEach [b] X.env := by rfl) (hpl : (backTo pos (starEach [b] X.env)).any (·.1) = false := by rfl) : GE X cl W (.Call (.Name "min" p) [a, b] [] pos) (mCall pyMin2 fa) := by
  refine ge_callB (call_min2 hcalm) (fun L H vs ds z hL i hz Q hq => ?_) (fun d n => ?_) hm (by decide +kernel) ha hg (by decide) (by decide) he hpl
  · unfold pyMin2 at hz
    split at hz
    · have e := ret_ok hz
      obtain ⟨v, w, rfl, iv, iw⟩ := i.two
      subst e
      cases iv
      cases iw
      exact ⟨_, _, rfl, hq _ H (Same.refl H) (.int _)⟩
    · cases hz
  · unfold pyMin2
    split
    · exact ret_er
    · exact none_er
/-- list(x): a new list -/
def pyListOf : List PyData → M (List PyData)
  | [d] => ofO (seqOf d) fun ds => ds
  | _ => none
theorem dr_listOf : DRCF X (fun xs H Q => ∃ p ys, xs = [.ref p] ∧ (SqL X.K H p ys ∨ SqT X.K H p ys) ∧ ∀ l, H l = none → Q (.ref l) (upd H l (.lst ys))) pyListOf := by
  intro L H vs ds zs hL i hz Q hq
  unfold pyListOf at hz
  split at hz
  · obtain ⟨es, h1, rfl⟩ := opt_ok (k := fun (ds : List PyData) => ds) hz
    obtain ⟨v, rfl, iv⟩ := i.one
    obtain ⟨a, xs, rfl, h2, h3⟩ := iv.seq h1
    exact ⟨a, xs, rfl, h2, fun l hl => hq l xs _ hl (Same.new hl) upd_same (h3.upd hl)⟩
  · cases hz
theorem gf_list (hm : X.mg "list" = none) (ha : GA X cl W [e] fa) (hg : Gl X "list" := by rfl) (he : starEach [e] X.env = (false, eval e X.env) :: starEach [] X.env := by rfl) : GF X cl W (.Call (.Name "list" p) [e] [] pos) (mCallF pyListOf fa) := by
  refine gf_callTy call_list_of dr_listOf (fun d n => ?_) hm (by decide +kernel) ha hg (by decide) (by decide) he rfl
  unfold pyListOf
  split
  · exact opt_er (k := fun (ds : List PyData) => ds)
  · exact none_er
/-- isinstance(x, T), T a built-in class -/
def tyName : PyData → String
  | .none => "NoneType"
  | .bool _ => "bool"
  | .int _ => "int"
  | .str _ => "str"
  | .list _ => "list"
  | .tuple _ => "tuple"
  | .dict [] => "dict"
  | .dict [(.bool _, .none)] => "dict"
  | .dict [(.int _, _)] => "dict"
  | .dict _ => "list"
theorem tyName_dict (k : List (PyData × PyData)) : tyName (.dict k) = "dict" ∨ tyName (.dict k) = "list" := by
  unfold tyName
  split <;> simp_all
def isInstN (T n : String) : Bool := n == T || (T == "int" && n == "bool")
def isInst (T : String) (d : PyData) : Bool := isInstN T (tyName d)
def mInst (T : String) (f : Rho → M PyData) : Rho → M Bool := fun ρ => bnd (f ρ) fun d => ret (isInst T d)
theorem Is.ty {K : PySem.W.Frag} {L : Own} {H : Hp} {v : V} {d : PyData} (h : Is K L H v d) : TyX K H v (.type (tyName d)) := by
  cases h with
  | non => exact .base .non
  | bl b => exact .base (.bl b)
  | int i => exact .base (.int i)
  | str x => exact .base (.str x)
  | lst h1 h2 h3 => exact .base (.lst h2)
  | tup h1 h3 =>
    rcases h1 with ⟨_, h2⟩ | ⟨_, o, its, n, k, c, _⟩
    · exact .base (.tup h2)
    · exact .kTuple k c
  | dct h1 h2 => exact .base (.dK h2)
  | emp h1 h2 => exact .base (.dK h2)
  | tdc ns h1 h2 h3 h4 => exact .base (.dT h2)
  | scr h1 =>
    rcases h1 with ⟨_, o, h2⟩ | ⟨o, its, n, k, c, _⟩
    · exact .base (.frz h2)
    · exact .kList k c
abbrev tyNames : List String := ["NoneType", "bool", "int", "str", "list", "tuple", "dict"]
theorem tyName_mem (d : PyData) : tyName d ∈ tyNames := by
  cases d with
  | dict kvs => rcases tyName_dict kvs with h | h <;> rw [h] <;> simp
  | _ => simp [tyName]
theorem kit_names : ∀ T ∈ ["int", "bool", "str", "list", "tuple"], ∀ n ∈ tyNames, kitB n T = some (isInstN T n) := by decide +kernel
theorem kit_all (T : String) (hT : T ∈ ["int", "bool", "str", "list", "tuple"]) (d : PyData) : kitB (tyName d) T = some (isInst T d) := kit_names T hT _ (tyName_mem d)
theorem ge_inst {T : String} {xT : Str} {pT : Pos} (hT : T ∈ ["int", "bool", "str", "list", "tuple"]) (hm : X.mg "isinstance" = none) (hmT : X.mg xT = none) (hvT : bootBuiltins xT = some (.type T)) (ha : GE X cl W a f) (hg : Gl X "isinstance" := by rfl) (hgT : Gl X xT := by rfl)
    (hnT : xT ≠ "__name__" := by decide) (hdT : (xT == ("__debug__" : Str)) = false := by decide)
    (he : starEach [a, .Name xT pT] X.env = (false, eval a X.env) :: starEach [.Name xT pT] X.env := by rfl) (he2 : starEach [.Name xT pT] X.env = (false, eval (.Name xT pT) X.env) :: starEach [] X.env := by rfl) (hpl : (backTo pos (starEach [.Name xT pT] X.env)).any (·.1) = false := by rfl) :
    GE X cl W (.Call (.Name "isinstance" p) [a, .Name xT pT] [] pos) (mB (mInst T f)) := by
  obtain ⟨ta, p1, d1⟩ := ha
  refine ⟨_, pe_callB call_isi hg hm (by decide +kernel) (pa_cons p1 (pa_cons (pe_bltn (v := .ty T) hgT hmT hvT rfl hnT hdT) pa_nil he2) he) (by decide) (by decide) he hpl, fun {Hb L0 α ρ σ H} E hne Q hq => ?_⟩
  have n0 := mB_inv hne
  refine d1 E (bnd_ne n0) _ ⟨fun d v H1 e1 s1 i1 => ?_, fun n H1 e1 s1 => hq.2 n H1 (bnd_raise (bnd_raise e1)) s1⟩
  have q1 : mInst T f ρ = ret (isInst T d) := bnd_eq e1
  refine ⟨v, .ty T, _, .type T, isInst T d, rfl, .ty T, i1.ty, kit_ty (kit_all T hT d), hq.1 (.bool (isInst T d)) _ H1 (by unfold mB; rw [q1]; rfl) s1 (.bl _)⟩
end
end VW
namespace VW
open PySem PySem.Spec PyProof.Rows L2

/-! ### what is walked -/
/-- the iterator yields ds, whatever happens that keeps what stood at its start -/
structure ItD (K : PySem.W.Frag) (L1 : Own) (H1 : Hp) (J : It) (ds : List PyData) : Prop where
  stop : ∀ L H, Kp L1 H1 L H → J.stop ds.length H
  item : ∀ (i : Nat) d, ds[i]? = some d → ∀ L H, Kp L1 H1 L H → (∀ a, L a → H a ≠ none) → J.go i H ∧ ∀ x H', J.yld i H x H' → Same H H' ∧ Is K L H' x d
section
variable (K : PySem.W.Frag) (cl : Ex → Addr) (W : WX)
def DenI (wi : TI) (f : Rho → M (List PyData)) : Prop := ∀ {Hb L0 α ρ σ H}, Env K Hb L0 α ρ σ H → f ρ ≠ none → ∀ R : It → Hp → Prop,
  (∀ ds J H', f ρ = some (.ok ds) → Same H H' → ItD K (Lof L0 α) H' J ds → R J H') → (∀ n H', f ρ = some (.er n) → Same H H' → W (.ref (cl n)) none σ H') → wi σ H R
/-- targets: what they do to the slots -/
def Out1 (ts : List Nat) (α α' : Al) (σ σ' : L2.St) : Prop := (∀ j, j ∉ ts → σ'[j]? = σ[j]? ∧ α' j = α j) ∧ σ'.length = σ.length
def DenG (ts : List Nat) (g : TG) (f : PyData → Rho → M Rho) : Prop := ∀ {Hb L0 α ρ σ H}, Env K Hb L0 α ρ σ H → ∀ (v : V) (d : PyData), Is K (Lof L0 α) H v d → f d ρ ≠ none → ∀ Q : L2.St → Hp → Prop,
  (∀ ρ' α' σ' H', f d ρ = some (.ok ρ') → Env K Hb L0 α' ρ' σ' H' → Kp (Lof L0 α) H (Lof L0 α') H' → Same H H' → Out1 ts α α' σ σ' → Q σ' H') → g v σ H Q
def NoErG (f : PyData → Rho → M Rho) : Prop := ∀ d ρ n, f d ρ ≠ some (.er n)
end
structure GI (X : Cx) (cl : Ex → Addr) (W : WX) (tg e : Expr) (f : Rho → M (List PyData)) : Prop where
  ex : ∃ wi, PI X tg e wi ∧ DenI X.K cl W wi f
structure GG (X : Cx) (e : Expr) (ts : List Nat) (f : PyData → Rho → M Rho) : Prop where
  ex : ∃ g, PG X e g ∧ DenG X.K ts g f
  ne : NoErG f
structure GGs (X : Cx) (es : List Expr) (ts : List Nat) (f : List PyData → Rho → M Rho) : Prop where
  ex : ∃ g : TGs, PGs X es g ∧ ∀ {Hb L0 α ρ σ H}, Env X.K Hb L0 α ρ σ H → ∀ (vs : List V) (ds : List PyData), IsAll X.K (Lof L0 α) H vs ds → f ds ρ ≠ none → ∀ Q : L2.St → Hp → Prop,
    (∀ ρ' α' σ' H', f ds ρ = some (.ok ρ') → Env X.K Hb L0 α' ρ' σ' H' → Kp (Lof L0 α) H (Lof L0 α') H' → Same H H' → Out1 ts α α' σ σ' → Q σ' H') → g vs σ H Q
  ne : ∀ ds ρ n, f ds ρ ≠ some (.er n)
def tgN (i : Nat) : PyData → Rho → M Rho := fun d ρ => ret (ρ.set i (some (.imm d)))
def tgsNil : List PyData → Rho → M Rho := fun ds ρ => match ds with
  | [] => ret ρ
  | _ => none
def tgsCons (f : PyData → Rho → M Rho) (g : List PyData → Rho → M Rho) : List PyData → Rho → M Rho := fun ds ρ => match ds with
  | d :: ds => bnd (f d ρ) fun ρ' => g ds ρ'
  | [] => none
def tgT (n : Nat) (g : List PyData → Rho → M Rho) : PyData → Rho → M Rho := fun d ρ => match d with
  | .tuple ds => if ds.length = n then g ds ρ else none
  | _ => none
def mRng1 (f : Rho → M (List PyData)) : Rho → M (List PyData) := fun ρ => bnd (f ρ) fun vs => match vs with
  | [.int j] => if -1000000000 ≤ j ∧ j < 1000000000 then ret ((List.range j.toNat).map fun i : Nat => PyData.int (i : Int)) else none
  | _ => none
def mRng2 (f : Rho → M (List PyData)) : Rho → M (List PyData) := fun ρ => bnd (f ρ) fun vs => match vs with
  | [.int i, .int j] => if -1000000000 ≤ i ∧ i < 1000000000 ∧ -1000000000 ≤ j ∧ j < 1000000000 then ret ((List.range (j - i).toNat).map fun k : Nat => PyData.int (i + (k : Int))) else none
  | _ => none
def mSeq1 (f : Rho → M PyData) : Rho → M (List PyData) := fun ρ => bnd (f ρ) fun d => ofO (seqOf d) fun ds => ds
def lstOf : PyData → Option (List PyData)
  | .list ds => some ds
  | .dict [(.none, .list ds)] => some ds
  | _ => none
def mLs (f : Rho → M PyData) : Rho → M (List PyData) := fun ρ => bnd (f ρ) fun d => ofO (lstOf d) fun ds => ds
def mTs (f : Rho → M PyData) : Rho → M (List PyData) := fun ρ => bnd (f ρ) fun d => match d with
  | .tuple ds => ret ds
  | _ => none
def mSs (f : Rho → M PyData) : Rho → M (List PyData) := fun ρ => bnd (f ρ) fun d => match d with
  | .str z => ret (z.cps.toList.map fun c => PyData.str ⟨#[c]⟩)
  | _ => none
def mEnum (f : Rho → M (List PyData)) : Rho → M (List PyData) := fun ρ => bnd (f ρ) fun vs => match vs with
  | [d] => ofO (lstOf d) fun ds => (List.range ds.length).map fun i : Nat => PyData.tuple [.int (i : Int), ds.getD i .none]
  | _ => none
def mZip (f : Rho → M (List PyData)) : Rho → M (List PyData) := fun ρ => bnd (f ρ) fun vs => match vs with
  | [d, e] => match lstOf d, lstOf e with
    | some ds, some es => ret ((List.range (min ds.length es.length)).map fun i : Nat => PyData.tuple [ds.getD i .none, es.getD i .none])
    | _, _ => none
  | _ => none
def mRev (f : Rho → M (List PyData)) : Rho → M (List PyData) := fun ρ => bnd (f ρ) fun vs => match vs with
  | [d] => ofO (lstOf d) fun ds => ds.reverse
  | _ => none
/-- a list that is read, through all that keeps it -/
theorem Is.lstK {K : PySem.W.Frag} {L : Own} {H : Hp} {v : V} {d : PyData} {ds : List PyData} (h : Is K L H v d) (e : lstOf d = some ds) : ∃ a xs, v = .ref a ∧ IsAll K L H xs ds ∧ ∀ L' H', Kp L H L' H' → SqL K H' a xs := by
  unfold lstOf at e
  split at e
  · cases e
    cases h with
    | lst h1 h2 h3 => exact ⟨_, _, rfl, h3, fun L' H' k => SqL.of (k.1 _ _ h1 h2)⟩
  · cases e
    cases h with
    | scr h1 =>
      refine ⟨_, _, rfl, IsAll.ints _, fun L' H' k => ?_⟩
      rcases h1 with ⟨n, o, h2⟩ | h1
      · exact .inl (.inr ⟨o, k.1 _ _ n h2⟩)
      · exact .inr h1
  · cases e
theorem Is.tupK {K : PySem.W.Frag} {L : Own} {H : Hp} {v : V} {ds : List PyData} (h : Is K L H v (.tuple ds)) : ∃ a xs, v = .ref a ∧ IsAll K L H xs ds ∧ ∀ L' H', Kp L H L' H' → SqT K H' a xs := by
  cases h with
  | tup h1 h3 =>
    refine ⟨_, _, rfl, h3, fun L' H' k => ?_⟩
    rcases h1 with ⟨n, h2⟩ | h1
    · exact SqT.of (k.1 _ _ n h2)
    · exact .inr h1.2
theorem itd_list {K : PySem.W.Frag} {L : Own} {H : Hp} {a : Addr} {xs : List V} {ds : List PyData} (h : IsAll K L H xs ds) (s : ∀ L' H', Kp L H L' H' → SqL K H' a xs) : ItD K L H (Itl K a) ds := by
  refine ⟨fun L' H' k => ⟨xs, s L' H' k, by rw [h.len]; exact Nat.le_refl _⟩, fun i d e L' H' k hL => ?_⟩
  obtain ⟨v, h1, h2⟩ := h.get e
  refine ⟨⟨xs, v, s L' H' k, h1⟩, fun x H2 y => ?_⟩
  obtain ⟨rfl, y⟩ := y
  have q := y xs (s L' H2 k)
  rw [h1] at q
  cases q
  exact ⟨Same.refl _, k.is h2⟩
theorem itd_tup {K : PySem.W.Frag} {L : Own} {H : Hp} {a : Addr} {xs : List V} {ds : List PyData} (h : IsAll K L H xs ds) (s : ∀ L' H', Kp L H L' H' → SqT K H' a xs) : ItD K L H (Itt K a) ds := by
  refine ⟨fun L' H' k => ⟨xs, s L' H' k, by rw [h.len]; exact Nat.le_refl _⟩, fun i d e L' H' k hL => ?_⟩
  obtain ⟨v, h1, h2⟩ := h.get e
  refine ⟨⟨xs, v, s L' H' k, h1⟩, fun x H2 y => ?_⟩
  obtain ⟨rfl, y⟩ := y
  have q := y xs (s L' H2 k)
  rw [h1] at q
  cases q
  exact ⟨Same.refl _, k.is h2⟩
theorem itd_range {K : PySem.W.Frag} {L : Own} {H : Hp} {lo : Int} {n : Nat} : ItD K L H (Itr lo n) ((List.range n).map fun k : Nat => PyData.int (lo + (k : Int))) := by
  refine ⟨fun L' H' k => ?_, fun i d e L' H' k hL => ?_⟩
  · show n ≤ _
    rw [List.length_map, List.length_range]
    exact Nat.le_refl _
  · rw [List.getElem?_map] at e
    cases q : (List.range n)[i]? with
    | none => rw [q] at e; cases e
    | some j =>
      obtain ⟨hj, ej⟩ := List.getElem?_eq_some_iff.mp q
      rw [List.getElem_range] at ej
      rw [List.length_range] at hj
      subst ej
      rw [q] at e
      cases e
      refine ⟨hj, fun x H2 y => ?_⟩
      obtain ⟨rfl, rfl⟩ := y
      exact ⟨Same.refl _, .int _⟩
theorem itd_str {K : PySem.W.Frag} {L : Own} {H : Hp} {z : Str} : ItD K L H (Its z) (z.cps.toList.map fun c => PyData.str ⟨#[c]⟩) := by
  refine ⟨fun L' H' k => ?_, fun i d e L' H' k hL => ?_⟩
  · show z.cps.size ≤ _
    rw [List.length_map, Array.length_toList]
    exact Nat.le_refl _
  · rw [List.getElem?_map] at e
    cases q : z.cps.toList[i]? with
    | none => rw [q] at e; cases e
    | some c =>
      rw [q] at e
      cases e
      have q' : z.cps[i]? = some c := by rw [← q]; exact (Array.getElem?_toList).symm
      refine ⟨(Array.getElem?_eq_some_iff.mp q').1, fun x H2 y => ?_⟩
      obtain ⟨rfl, c', h1, rfl⟩ := y
      rw [q'] at h1
      cases h1
      exact ⟨Same.refl _, .str _⟩
theorem itd_enum {K : PySem.W.Frag} {L : Own} {H : Hp} {a : Addr} {xs : List V} {ds : List PyData} (h : IsAll K L H xs ds) (s : ∀ L' H', Kp L H L' H' → SqL K H' a xs) :
    ItD K L H (Ite K a) ((List.range ds.length).map fun i : Nat => PyData.tuple [.int (i : Int), ds.getD i .none]) := by
  refine ⟨fun L' H' k => ⟨xs, s L' H' k, by rw [h.len, List.length_map, List.length_range]; exact Nat.le_refl _⟩, fun i d e L' H' k hL => ?_⟩
  rw [List.getElem?_map] at e
  cases q : (List.range ds.length)[i]? with
  | none => rw [q] at e; cases e
  | some j =>
    obtain ⟨hj, ej⟩ := List.getElem?_eq_some_iff.mp q
    rw [List.getElem_range] at ej
    rw [List.length_range] at hj
    subst ej
    rw [q] at e
    cases e
    obtain ⟨v, h1, h2⟩ := h.get (List.getElem?_eq_getElem hj)
    refine ⟨⟨xs, v, s L' H' k, h1⟩, fun x H2 y => ?_⟩
    obtain ⟨T, w, rfl, nT, rfl, y⟩ := y
    have q2 := y xs (s L' H' k)
    rw [h1] at q2
    cases q2
    have ed : ds.getD i .none = ds[i] := by rw [List.getD_eq_getElem?_getD, List.getElem?_eq_getElem hj]; rfl
    refine ⟨Same.new nT, Is.newT hL nT (.cons (.int _) (.cons ?_ .nil))⟩
    rw [ed]
    exact k.is h2
theorem itd_zip {K : PySem.W.Frag} {L : Own} {H : Hp} {a b : Addr} {xs ys : List V} {ds es : List PyData} (h : IsAll K L H xs ds) (s : ∀ L' H', Kp L H L' H' → SqL K H' a xs) (h' : IsAll K L H ys es) (s' : ∀ L' H', Kp L H L' H' → SqL K H' b ys) :
    ItD K L H (Itz K a b) ((List.range (min ds.length es.length)).map fun i : Nat => PyData.tuple [ds.getD i .none, es.getD i .none]) := by
  refine ⟨fun L' H' k => ⟨xs, ys, s L' H' k, s' L' H' k, by rw [h.len, h'.len, List.length_map, List.length_range]; omega⟩, fun i d e L' H' k hL => ?_⟩
  rw [List.getElem?_map] at e
  cases q : (List.range (min ds.length es.length))[i]? with
  | none => rw [q] at e; cases e
  | some j =>
    obtain ⟨hj, ej⟩ := List.getElem?_eq_some_iff.mp q
    rw [List.getElem_range] at ej
    rw [List.length_range] at hj
    subst ej
    rw [q] at e
    cases e
    have hj1 : i < ds.length := by omega
    have hj2 : i < es.length := by omega
    obtain ⟨v, h1, h2⟩ := h.get (List.getElem?_eq_getElem hj1)
    obtain ⟨w, h3, h4⟩ := h'.get (List.getElem?_eq_getElem hj2)
    refine ⟨⟨xs, ys, v, w, s L' H' k, s' L' H' k, h1, h3⟩, fun x H2 y => ?_⟩
    obtain ⟨T, u1, u2, rfl, nT, rfl, y1, y2⟩ := y
    have q1 := y1 xs (s L' H' k)
    have q2 := y2 ys (s' L' H' k)
    rw [h1] at q1
    rw [h3] at q2
    cases q1
    cases q2
    have ed : ds.getD i .none = ds[i] := by rw [List.getD_eq_getElem?_getD, List.getElem?_eq_getElem hj1]; rfl
    have ee : es.getD i .none = es[i] := by rw [List.getD_eq_getElem?_getD, List.getElem?_eq_getElem hj2]; rfl
    refine ⟨Same.new nT, Is.newT hL nT (.cons ?_ (.cons ?_ .nil))⟩
    · rw [ed]
      exact k.is h2
    · rw [ee]
      exact k.is h4
theorem itd_rev {K : PySem.W.Frag} {L : Own} {H : Hp} {a : Addr} {xs : List V} {ds : List PyData} (h : IsAll K L H xs ds) (s : ∀ L' H', Kp L H L' H' → SqL K H' a xs) : ItD K L H (Itv K a xs.length) ds.reverse := by
  refine ⟨fun L' H' k => by show xs.length ≤ _; rw [h.len, List.length_reverse]; exact Nat.le_refl _, fun i d e L' H' k hL => ?_⟩
  have hi : i < ds.length := by
    have q := (List.getElem?_eq_some_iff.mp e).1
    rw [List.length_reverse] at q
    exact q
  rw [List.getElem?_reverse hi] at e
  obtain ⟨v, h1, h2⟩ := h.get e
  rw [← h.len] at h1 hi
  refine ⟨⟨hi, xs, v, s L' H' k, h1⟩, fun x H2 y => ?_⟩
  obtain ⟨rfl, y⟩ := y
  have q := y xs (s L' H2 k)
  rw [h1] at q
  cases q
  exact ⟨Same.refl _, k.is h2⟩

section
variable {X : Cx} {cl : Ex → Addr} {W : WX} {e a b tg : Expr} {f g : Rho → M PyData} {fa : Rho → M (List PyData)} {pos p : Pos} {es : List Expr}
theorem gi_list (ha : GE X cl W e f) : GI X cl W tg e (mLs f) := by
  obtain ⟨te, p1, d1⟩ := ha
  refine ⟨_, pi_list p1, fun {Hb L0 α ρ σ H} E hne R hq hr => d1 E (bnd_ne hne) _ ⟨fun d v H1 e1 s1 i1 => ?_, fun n H1 e1 s1 => hr n H1 (bnd_raise e1) s1⟩⟩
  have n1 := bnd_at hne e1
  have q1 : mLs f ρ = _ := bnd_eq e1
  cases e2 : lstOf d with
  | none => rw [e2] at n1; exact absurd rfl n1
  | some ds =>
    rw [e2] at q1
    obtain ⟨a, xs, rfl, h1, h2⟩ := i1.lstK e2
    exact ⟨a, rfl, ⟨xs, h2 _ _ (Kp.refl _ _)⟩, hq ds _ H1 q1 s1 (itd_list h1 h2)⟩
theorem gi_tup (ha : GE X cl W e f) : GI X cl W tg e (mTs f) := by
  obtain ⟨te, p1, d1⟩ := ha
  refine ⟨_, pi_tup p1, fun {Hb L0 α ρ σ H} E hne R hq hr => d1 E (bnd_ne hne) _ ⟨fun d v H1 e1 s1 i1 => ?_, fun n H1 e1 s1 => hr n H1 (bnd_raise e1) s1⟩⟩
  have n1 := bnd_at hne e1
  have q1 : mTs f ρ = _ := bnd_eq e1
  cases d with
  | tuple ds =>
    obtain ⟨a, xs, rfl, h1, h2⟩ := i1.tupK
    exact ⟨a, rfl, ⟨xs, h2 _ _ (Kp.refl _ _)⟩, hq ds _ H1 q1 s1 (itd_tup h1 h2)⟩
  | _ => exact absurd rfl n1
theorem gi_str (ha : GE X cl W e f) : GI X cl W tg e (mSs f) := by
  obtain ⟨te, p1, d1⟩ := ha
  refine ⟨_, pi_str p1, fun {Hb L0 α ρ σ H} E hne R hq hr => d1 E (bnd_ne hne) _ ⟨fun d v H1 e1 s1 i1 => ?_, fun n H1 e1 s1 => hr n H1 (bnd_raise e1) s1⟩⟩
  have n1 := bnd_at hne e1
  have q1 : mSs f ρ = _ := bnd_eq e1
  cases d with
  | str z => exact ⟨z, i1.strD, hq _ _ H1 q1 s1 itd_str⟩
  | _ => exact absurd rfl n1
theorem gi_range1 (hm : X.mg "range" = none) (ha : GA X cl W [e] fa) (hg : Gl X "range" := by rfl) (hs : starEach [e] X.env = [(false, eval e X.env)] := by rfl) : GI X cl W tg (.Call (.Name "range" p) [e] [] pos) (mRng1 fa) := by
  obtain ⟨ta, p1, d1⟩ := ha
  refine ⟨_, pi_range1 hg hm p1 hs, fun {Hb L0 α ρ σ H} E hne R hq hr => d1 E (bnd_ne hne) _ ⟨fun ds vs H1 e1 s1 i1 => ?_, fun n H1 e1 s1 => hr n H1 (bnd_raise e1) s1⟩⟩
  have n1 := bnd_at hne e1
  have q1 : mRng1 fa ρ = _ := bnd_eq e1
  split at n1
  · rename_i j
    obtain ⟨c1, c2⟩ := if_inv n1
    obtain ⟨v, rfl, iv⟩ := i1.one
    cases iv
    refine ⟨j, rfl, by omega, by omega, hq _ _ H1 (q1.trans c2) s1 ?_⟩
    have q := itd_range (K := X.K) (L := Lof L0 α) (H := H1) (lo := 0) (n := j.toNat)
    simpa using q
  · exact absurd rfl n1
theorem gi_range2 (hm : X.mg "range" = none) (ha : GA X cl W [a, b] fa) (hg : Gl X "range" := by rfl) (hs : starEach [a, b] X.env = [(false, eval a X.env), (false, eval b X.env)] := by rfl) (hs2 : starEach [b] X.env = [(false, eval b X.env)] := by rfl) : GI X cl W tg (.Call (.Name "range" p) [a, b] [] pos) (mRng2 fa) := by
  obtain ⟨ta, p1, d1⟩ := ha
  refine ⟨_, pi_range2 hg hm p1 hs hs2, fun {Hb L0 α ρ σ H} E hne R hq hr => d1 E (bnd_ne hne) _ ⟨fun ds vs H1 e1 s1 i1 => ?_, fun n H1 e1 s1 => hr n H1 (bnd_raise e1) s1⟩⟩
  have n1 := bnd_at hne e1
  have q1 : mRng2 fa ρ = _ := bnd_eq e1
  split at n1
  · rename_i i j
    obtain ⟨c1, c2⟩ := if_inv n1
    obtain ⟨v, w, rfl, iv, iw⟩ := i1.two
    cases iv
    cases iw
    exact ⟨i, j, rfl, by omega, hq _ _ H1 (q1.trans c2) s1 itd_range⟩
  · exact absurd rfl n1
theorem gi_enum {elts : List Expr} {kk : Nat} {tpos : Pos} (hm : X.mg "enumerate" = none) (ha : GA X cl W [e] fa) (hg : Gl X "enumerate" := by rfl) (hs : starEach [e] X.env = [(false, eval e X.env)] := by rfl) : GI X cl W (.Tuple elts kk tpos) (.Call (.Name "enumerate" p) [e] [] pos) (mEnum fa) := by
  obtain ⟨ta, p1, d1⟩ := ha
  refine ⟨_, pi_enum hg hm p1 hs, fun {Hb L0 α ρ σ H} E hne R hq hr => d1 E (bnd_ne hne) _ ⟨fun ds vs H1 e1 s1 i1 => ?_, fun n H1 e1 s1 => hr n H1 (bnd_raise e1) s1⟩⟩
  have n1 := bnd_at hne e1
  have q1 : mEnum fa ρ = _ := bnd_eq e1
  split at n1
  · rename_i d
    cases e2 : lstOf d with
    | none => rw [e2] at n1; exact absurd rfl n1
    | some ds =>
      obtain ⟨v, rfl, iv⟩ := i1.one
      obtain ⟨a, xs, rfl, h1, h2⟩ := iv.lstK e2
      refine ⟨a, xs, rfl, h2 _ _ (Kp.refl _ _), hq _ _ H1 ?_ s1 (itd_enum h1 h2)⟩
      rw [q1]
      show ofO (lstOf d) _ = _
      rw [e2]
      rfl
  · exact absurd rfl n1
theorem gi_zip {elts : List Expr} {kk : Nat} {tpos : Pos} (hm : X.mg "zip" = none) (ha : GA X cl W [a, b] fa) (hg : Gl X "zip" := by rfl) (hs : starEach [a, b] X.env = (false, eval a X.env) :: starEach [b] X.env := by rfl) (hpl : (backTo pos (starEach [b] X.env)).any (·.1) = false := by rfl) :
    GI X cl W (.Tuple elts kk tpos) (.Call (.Name "zip" p) [a, b] [] pos) (mZip fa) := by
  obtain ⟨ta, p1, d1⟩ := ha
  refine ⟨_, pi_zip hg hm p1 hs hpl, fun {Hb L0 α ρ σ H} E hne R hq hr => d1 E (bnd_ne hne) _ ⟨fun ds vs H1 e1 s1 i1 => ?_, fun n H1 e1 s1 => hr n H1 (bnd_raise e1) s1⟩⟩
  have n1 := bnd_at hne e1
  have q1 : mZip fa ρ = _ := bnd_eq e1
  split at n1
  · rename_i d e
    split at n1
    · rename_i ds es e2 e3
      obtain ⟨v, w, rfl, iv, iw⟩ := i1.two
      obtain ⟨a, xs, rfl, h1, h2⟩ := iv.lstK e2
      obtain ⟨b, ys, rfl, h3, h4⟩ := iw.lstK e3
      refine ⟨a, b, xs, ys, rfl, h2 _ _ (Kp.refl _ _), h4 _ _ (Kp.refl _ _), hq _ _ H1 ?_ s1 (itd_zip h1 h2 h3 h4)⟩
      rw [q1]
      simp only [e2, e3]
      rfl
    · exact absurd rfl n1
  · exact absurd rfl n1
theorem gi_rev (hm : X.mg "reversed" = none) (ha : GA X cl W [e] fa) (hg : Gl X "reversed" := by rfl) (hs : starEach [e] X.env = [(false, eval e X.env)] := by rfl) : GI X cl W tg (.Call (.Name "reversed" p) [e] [] pos) (mRev fa) := by
  obtain ⟨ta, p1, d1⟩ := ha
  refine ⟨_, pi_reversed hg hm p1 hs, fun {Hb L0 α ρ σ H} E hne R hq hr => d1 E (bnd_ne hne) _ ⟨fun ds vs H1 e1 s1 i1 => ?_, fun n H1 e1 s1 => hr n H1 (bnd_raise e1) s1⟩⟩
  have n1 := bnd_at hne e1
  have q1 : mRev fa ρ = _ := bnd_eq e1
  split at n1
  · rename_i d
    cases e2 : lstOf d with
    | none => rw [e2] at n1; exact absurd rfl n1
    | some ds =>
      obtain ⟨v, rfl, iv⟩ := i1.one
      obtain ⟨a, xs, rfl, h1, h2⟩ := iv.lstK e2
      refine ⟨a, xs, rfl, h2 _ _ (Kp.refl _ _), hq _ _ H1 ?_ s1 (itd_rev h1 h2)⟩
      rw [q1]
      show ofO (lstOf d) _ = _
      rw [e2]
      rfl
  · exact absurd rfl n1

/-! ### targets -/
theorem gg_name (i : Nat) {x : Str} {pos : Pos} (hN : X.N.Nodup) (hi : X.N[i]? = some x := by rfl) (hx : Loc X.env.scope x := by first | exact .inl rfl | exact .inr rfl) (hf : X.fn x = true ∨ X.env.scope.names.lookup x = some .local := by first | exact .inl rfl | exact .inr rfl) : GG X (.Name x pos) [i] (tgN i) :=
  ⟨⟨_, pg_name hN hi hx hf, fun {Hb L0 α ρ σ H} E v d iv hne Q hq => hq _ _ _ H rfl (E.setImm i iv) Env.kImm (Same.refl H) ⟨fun j hj => by
      have ne : j ≠ i := fun z => hj (List.mem_singleton.mpr z)
      refine ⟨List.getElem?_set_ne (Ne.symm ne), ?_⟩
      split
      · exact ups_ne ne
      · rfl, List.length_set⟩⟩, fun d ρ n => ret_er⟩
theorem ggs_nil : GGs X [] [] tgsNil := by
  refine ⟨⟨_, pgs_nil, fun {Hb L0 α ρ σ H} E vs ds iv hne Q hq => ?_⟩, fun ds ρ n => ?_⟩
  · unfold tgsNil at hne hq
    cases ds with
    | nil =>
      cases iv
      exact ⟨rfl, hq ρ α σ H rfl E (Kp.refl _ _) (Same.refl H) ⟨fun _ _ => ⟨rfl, rfl⟩, rfl⟩⟩
    | cons d ds => exact absurd rfl hne
  · unfold tgsNil
    split
    · exact ret_er
    · exact none_er
theorem ggs_cons {ts us : List Nat} {f : PyData → Rho → M Rho} {g : List PyData → Rho → M Rho} (h1 : GG X e ts f) (h2 : GGs X es us g) (hs : (assignEach (e :: es) X.env).map (·.2) = assign e X.env :: (assignEach es X.env).map (·.2) := by rfl) : GGs X (e :: es) (ts ++ us) (tgsCons f g) := by
  obtain ⟨⟨g1, p1, d1⟩, n1⟩ := h1
  obtain ⟨⟨g2, p2, d2⟩, n2⟩ := h2
  refine ⟨⟨_, pgs_cons p1 p2 hs, fun {Hb L0 α ρ σ H} E vs ds iv hne Q hq => ?_⟩, fun ds ρ n => ?_⟩
  · cases ds with
    | nil => exact absurd rfl hne
    | cons d ds =>
      cases iv with
      | cons i1 i2 =>
        have ne1 : bnd (f d ρ) (fun ρ' => g ds ρ') ≠ none := hne
        refine ⟨_, _, rfl, d1 E _ d i1 (bnd_ne ne1) _ fun ρ1 α1 σ1 H1 e1 E1 k1 s1 l1 => ?_⟩
        have ne2 := bnd_at ne1 e1
        have q1 : tgsCons f g (d :: ds) ρ = g ds ρ1 := bnd_eq e1
        refine d2 E1 _ ds (k1.all i2) ne2 Q fun ρ2 α2 σ2 H2 e2 E2 k2 s2 l2 => hq ρ2 α2 σ2 H2 (q1.trans e2) E2 (k1.trans k2) (s1.trans s2) ⟨fun j hj => ?_, l2.2.trans l1.2⟩
        have j1 : j ∉ ts := fun z => hj (List.mem_append_left _ z)
        have j2 : j ∉ us := fun z => hj (List.mem_append_right _ z)
        exact ⟨(l2.1 j j2).1.trans (l1.1 j j1).1, (l2.1 j j2).2.trans (l1.1 j j1).2⟩
  · cases ds with
    | nil => exact none_er
    | cons d ds =>
      intro z
      rcases bnd_er_inv z with q | ⟨ρ', _, q⟩
      · exact n1 d ρ n q
      · exact n2 ds ρ' n q
theorem gg_tup {k : Nat} {us : List Nat} {g : List PyData → Rho → M Rho} (n : Nat) (hc : X.calm = true) (h : GGs X es us g) (hn : (assignEach es X.env).length = n := by rfl) (hst : (assignEach es X.env).findIdx? (·.1) = none := by rfl) : GG X (.Tuple es k pos) us (tgT n g) := by
  obtain ⟨⟨g1, p1, d1⟩, n1⟩ := h
  refine ⟨⟨_, pg_tup hc p1 hn hst, fun {Hb L0 α ρ σ H} E v d iv hne Q hq => ?_⟩, fun d ρ n => ?_⟩
  · cases d with
    | tuple ds =>
      have ne0 : (if ds.length = n then g ds ρ else none) ≠ none := hne
      obtain ⟨c1, c2⟩ := if_inv ne0
      obtain ⟨a, xs, rfl, h1, h2⟩ := iv.tupD
      rw [c2] at ne0
      refine ⟨a, xs, rfl, h1, by rw [h2.len]; exact c1, d1 E xs ds h2 ne0 Q fun ρ' α' σ' H' e1 => hq ρ' α' σ' H' ((show tgT n g (.tuple ds) ρ = _ from c2).trans e1)⟩
    | _ => exact absurd rfl hne
  · cases d with
    | tuple ds => exact if_er (n1 ds ρ _)
    | _ => exact none_er
end

/-! ### statements -/
inductive Out where
  | nx (ρ : Rho)
  | bk (ρ : Rho)
  | ct (ρ : Rho)
  | rt (d : PyData)
/-- what a def tells: plain data; a new list; a new list of new lists (or an atom) -/
inductive Md where
  | pl | fr | dp
  deriving DecidableEq
def lstsOf : List PyData → Option (List (List PyData))
  | [] => some []
  | .list d :: ds => (lstsOf ds).map (d :: ·)
  | _ :: _ => none
/-- how a slot holds what such a def tells -/
def slOf : PyData → Sl
  | .list ds => match lstsOf ds with
    | some dss => .deep dss
    | none => .imm (.list ds)
  | d => .imm d
theorem lstsOf_some : ∀ {ds : List PyData} {dss : List (List PyData)}, lstsOf ds = some dss → ds = dss.map PyData.list
  | [], dss, h => by cases h; rfl
  | .list d :: ds, dss, h => by
    cases e : lstsOf ds with
    | none =>
      have h' : (lstsOf ds).map (d :: ·) = some dss := h
      rw [e] at h'
      cases h'
    | some r =>
      have h' : (lstsOf ds).map (d :: ·) = some dss := h
      rw [e] at h'
      cases h'
      rw [lstsOf_some e]
      rfl
  | .none :: _, _, h => by cases h
  | .bool _ :: _, _, h => by cases h
  | .int _ :: _, _, h => by cases h
  | .str _ :: _, _, h => by cases h
  | .tuple _ :: _, _, h => by cases h
  | .dict _ :: _, _, h => by cases h
theorem lstsOf_map : ∀ dss : List (List PyData), lstsOf (dss.map PyData.list) = some dss
  | [] => rfl
  | d :: dss => by
    show (lstsOf (dss.map PyData.list)).map (d :: ·) = _
    rw [lstsOf_map dss]
    rfl
theorem slOf_deep (dss : List (List PyData)) : slOf (.list (dss.map PyData.list)) = .deep dss := by
  unfold slOf
  dsimp only
  rw [lstsOf_map]
theorem slOf_cases (d : PyData) : slOf d = .imm d ∨ ∃ dss, d = .list (dss.map PyData.list) ∧ slOf d = .deep dss := by
  unfold slOf
  cases d with
  | list ds =>
    dsimp only
    cases e : lstsOf ds with
    | none => exact .inl rfl
    | some dss => exact .inr ⟨dss, by rw [lstsOf_some e], rfl⟩
  | _ => exact .inl rfl
theorem thaw_slOf (d : PyData) : thaw (slOf d) = some d := by
  rcases slOf_cases d with e | ⟨dss, rfl, e⟩
  · rw [e]
    rfl
  · rw [e]
    rfl
def RetOk (fr : Md) (K : PySem.W.Frag) (Hb : Hp) (L0 : Own) (H' : Hp) (v : V) (d : PyData) : Prop := Same Hb H' ∧
  (match fr with
    | .fr => ∃ p xs ds, v = .ref p ∧ d = .list ds ∧ Hb p = none ∧ ¬ L0 p ∧ H' p = some (.lst xs) ∧ IsAll K (fun a => L0 a ∨ a = p) H' xs ds
    | .pl => Is K L0 H' v d
    | .dp => ∃ as, (∀ a ∈ as, Hb a = none ∧ ¬ L0 a) ∧ SlIs K (fun a => L0 a ∨ a ∈ as) H' as v (slOf d))
/-- .. and the slots but ts are as they were -/
def Kps (ts : List Nat) (L : Own) (σ : L2.St) (H : Hp) (L' : Own) (σ' : L2.St) (H' : Hp) : Prop := Kp L H L' H' ∧ ∀ j, j ∉ ts → σ'[j]? = σ[j]?
theorem Kps.refl (L : Own) (σ : L2.St) (H : Hp) : Kps [] L σ H L σ H := ⟨Kp.refl L H, fun _ _ => rfl⟩
theorem Kps.trans {ts us : List Nat} {L La Lb : Own} {σ σ1 σ2 : L2.St} {H H1 H2 : Hp} (a : Kps ts L σ H La σ1 H1) (b : Kps us La σ1 H1 Lb σ2 H2) : Kps (ts ++ us) L σ H Lb σ2 H2 :=
  ⟨a.1.trans b.1, fun j hj => (b.2 j fun z => hj (List.mem_append_right _ z)).trans (a.2 j fun z => hj (List.mem_append_left _ z))⟩
theorem Kps.sub {ts us : List Nat} {L L1 : Own} {σ σ1 : L2.St} {H H1 : Hp} (a : Kps ts L σ H L1 σ1 H1) (s : ∀ j ∈ ts, j ∈ us) : Kps us L σ H L1 σ1 H1 := ⟨a.1, fun j hj => a.2 j fun z => hj (s j z)⟩
theorem Kps.pre {ts : List Nat} {L La Lb : Own} {σ σ2 : L2.St} {H H1 H2 : Hp} (a : Kp L H La H1) (b : Kps ts La σ H1 Lb σ2 H2) : Kps ts L σ H Lb σ2 H2 := ⟨a.trans b.1, b.2⟩
theorem Kps.set {i : Nat} {x : Option V} {L L1 : Own} {σ : L2.St} {H H1 : Hp} (a : Kp L H L1 H1) : Kps [i] L σ H L1 (σ.set i x) H1 := ⟨a, fun j hj => List.getElem?_set_ne (fun z => hj (List.mem_singleton.mpr z.symm))⟩
theorem Kps.same {ts : List Nat} {L L1 : Own} {σ : L2.St} {H H1 : Hp} (a : Kp L H L1 H1) : Kps ts L σ H L1 σ H1 := ⟨a, fun _ _ => rfl⟩
section
variable (K : PySem.W.Frag) (cl : Ex → Addr) (W : WX) (fr : Md) (pu : Bool) (ts : List Nat)
structure PostS (Hb : Hp) (L0 : Own) (α : Al) (ρ : Rho) (σ : L2.St) (H : Hp) (m : M Out) (D : Ends) : Prop where
  nx : ∀ ρ' α' σ' H', m = some (.ok (.nx ρ')) → Env K Hb L0 α' ρ' σ' H' → Kps ts (Lof L0 α) σ H (Lof L0 α') σ' H' → D.nx σ' H'
  bk : ∀ ρ' α' σ' H', m = some (.ok (.bk ρ')) → Env K Hb L0 α' ρ' σ' H' → Kps ts (Lof L0 α) σ H (Lof L0 α') σ' H' → D.bk σ' H'
  ct : ∀ ρ' α' σ' H', m = some (.ok (.ct ρ')) → Env K Hb L0 α' ρ' σ' H' → Kps ts (Lof L0 α) σ H (Lof L0 α') σ' H' → D.ct σ' H'
  rt : ∀ d v H', m = some (.ok (.rt d)) → RetOk fr K Hb L0 H' v d → D.rt v H'
  er : ∀ n σ' H', m = some (.er n) → Same Hb H' → (pu = true → ∃ α', Env K Hb L0 α' ρ σ' H' ∧ Kp (Lof L0 α) H (Lof L0 α') H') → W (.ref (cl n)) none σ' H'
def DenS (tr : TS) (f : Rho → M Out) : Prop := ∀ {Hb L0 α ρ σ H}, Env K Hb L0 α ρ σ H → (∀ a, L0 a → Hb a ≠ none) → f ρ ≠ none → ∀ D : Ends, PostS K cl W fr pu ts Hb L0 α ρ σ H (f ρ) D → tr D σ H
end
structure GS (X : Cx) (cl : Ex → Addr) (W : WX) (fr : Md) (pu : Bool) (ts : List Nat) (st : Stmt) (f : Rho → M Out) : Prop where
  ex : ∃ tr, PS X st tr ∧ DenS X.K cl W fr pu ts tr f
structure GSs (X : Cx) (cl : Ex → Addr) (W : WX) (fr : Md) (pu : Bool) (ts : List Nat) (st : List Stmt) (f : Rho → M Out) : Prop where
  ex : ∃ tr, PSs X st tr ∧ DenS X.K cl W fr pu ts tr f
def sNx : Rho → M Out := fun ρ => ret (.nx ρ)
def sBk : Rho → M Out := fun ρ => ret (.bk ρ)
def sCt : Rho → M Out := fun ρ => ret (.ct ρ)
def thenO (o : Out) (k : Rho → M Out) : M Out := match o with
  | .nx ρ => k ρ
  | o => ret o
def sSeq (f g : Rho → M Out) : Rho → M Out := fun ρ => bnd (f ρ) fun o => thenO o g
def sIf (t : Rho → M Bool) (f g : Rho → M Out) : Rho → M Out := fun ρ => bnd (t ρ) fun b => match b with
  | true => f ρ
  | false => g ρ
def sSet (i : Nat) (f : Rho → M PyData) : Rho → M Out := fun ρ => bnd (f ρ) fun d => ret (.nx (ρ.set i (some (.imm d))))
def sOwn (i : Nat) (f : Rho → M (List PyData)) : Rho → M Out := fun ρ => bnd (f ρ) fun ds => ret (.nx (ρ.set i (some (.own ds))))
def sAsg (g : PyData → Rho → M Rho) (f : Rho → M PyData) : Rho → M Out := fun ρ => bnd (f ρ) fun d => bnd (g d ρ) fun ρ' => ret (.nx ρ')
def sRet (f : Rho → M PyData) : Rho → M Out := fun ρ => bnd (f ρ) fun d => ret (.rt d)
def sRetF (f : Rho → M (List PyData)) : Rho → M Out := fun ρ => bnd (f ρ) fun ds => ret (.rt (.list ds))
def sDrop (f : Rho → M PyData) : Rho → M Out := fun ρ => bnd (f ρ) fun _ => ret (.nx ρ)
def sApp (i : Nat) (f : Rho → M PyData) : Rho → M Out := fun ρ => match ρ[i]? with
  | some (some (.own ds)) => bnd (f ρ) fun d => if ds.length < 16777216 then ret (.nx (ρ.set i (some (.own (ds ++ [d]))))) else none
  | _ => none
def sPut (i : Nat) (f g : Rho → M PyData) : Rho → M Out := fun ρ => match ρ[i]? with
  | some (some (.own ds)) => bnd (f ρ) fun d => bnd (g ρ) fun k => match k with
    | .int k => match ixN ds.length k with
      | some j => ret (.nx (ρ.set i (some (.own (ds.set j d)))))
      | none => none
    | _ => none
  | _ => none
def sFrz (i : Nat) (f : Rho → M Out) : Rho → M Out := fun ρ => f (frz i ρ)
def sRaise (n : Ex) : Rho → M Out := fun _ => some (.er n)
def sNever : Rho → M Out := fun _ => none
def loopO (o : Out) (k : Rho → M Out) : M Out := match o with
  | .nx ρ => k ρ
  | .ct ρ => k ρ
  | .bk ρ => ret (.nx ρ)
  | .rt d => ret (.rt d)
def loopM (g : PyData → Rho → M Rho) (b : Rho → M Out) : List PyData → Rho → M Out
  | [], ρ => ret (.nx ρ)
  | d :: ds, ρ => bnd (g d ρ) fun ρ1 => bnd (b ρ1) fun o => loopO o (loopM g b ds)
def sFor (g : PyData → Rho → M Rho) (f : Rho → M (List PyData)) (b : Rho → M Out) : Rho → M Out := fun ρ => bnd (f ρ) fun ds => loopM g b ds ρ
section
variable {X : Cx} {cl : Ex → Addr} {W : WX} {fr : Md} {pu : Bool} {e a b tg : Expr} {f g : Rho → M PyData} {fa : Rho → M (List PyData)} {pos p : Pos} {es : List Expr} {st : Stmt} {rest sts : List Stmt} {s u : Rho → M Out} {t1 t2 : List Nat}
theorem gss_nil : GSs X cl W fr pu [] [] sNx := ⟨_, pss_nil, fun {Hb L0 α ρ σ H} E l0 hne D hq => hq.nx ρ α σ H rfl E (Kps.refl _ _ _)⟩
theorem gss_one (h : GS X cl W fr pu t1 st s) : GSs X cl W fr pu t1 [st] s := let ⟨ts, p, d⟩ := h; ⟨ts, pss_one p, d⟩
/-- a statement ahead of others -/
theorem gss_cons' (hs : pu = true → ∀ ρ ρ', s ρ = some (.ok (.nx ρ')) → ρ' = ρ) (h1 : GS X cl W fr pu t1 st s) (h2 : GSs X cl W fr pu t2 rest u) : GSs X cl W fr pu (t1 ++ t2) (st :: rest) (sSeq s u) := by
  obtain ⟨ts, p1, d1⟩ := h1
  obtain ⟨us, p2, d2⟩ := h2
  refine ⟨_, pss_cons p1 p2, fun {Hb L0 α ρ σ H} E l0 hne D hq => ?_⟩
  have n0 : bnd (s ρ) (fun o => thenO o u) ≠ none := hne
  have out : ∀ o, s ρ = some (.ok o) → sSeq s u ρ = thenO o u := fun o e => bnd_eq e
  refine d1 E l0 (bnd_ne n0) _ ⟨fun ρ' α' σ' H' e1 E1 k1 => ?_, fun ρ' α' σ' H' e1 E1 k1 => hq.bk ρ' α' σ' H' (out _ e1) E1 (k1.sub fun _ z => List.mem_append_left _ z), fun ρ' α' σ' H' e1 E1 k1 => hq.ct ρ' α' σ' H' (out _ e1) E1 (k1.sub fun _ z => List.mem_append_left _ z), fun d v H' e1 r1 => hq.rt d v H' (out _ e1) r1, fun n σ' H' e1 s1 pe => hq.er n σ' H' (bnd_raise e1) s1 pe⟩
  have n1 : u ρ' ≠ none := bnd_at (k := fun o => thenO o u) n0 e1
  have q1 : sSeq s u ρ = u ρ' := out _ e1
  refine d2 E1 l0 n1 D ⟨fun ρ2 α2 σ2 H2 e2 E2 k2 => hq.nx ρ2 α2 σ2 H2 (q1.trans e2) E2 (k1.trans k2), fun ρ2 α2 σ2 H2 e2 E2 k2 => hq.bk ρ2 α2 σ2 H2 (q1.trans e2) E2 (k1.trans k2), fun ρ2 α2 σ2 H2 e2 E2 k2 => hq.ct ρ2 α2 σ2 H2 (q1.trans e2) E2 (k1.trans k2),
    fun d v H2 e2 r2 => hq.rt d v H2 (q1.trans e2) r2, fun n σ2 H2 e2 s2 pe => hq.er n σ2 H2 (q1.trans e2) s2 fun hp => ?_⟩
  have er := hs hp ρ ρ' e1
  subst er
  obtain ⟨α3, E3, k3⟩ := pe hp
  exact ⟨α3, E3, k1.1.trans k3⟩
theorem gss_cons (h1 : GS X cl W fr false t1 st s) (h2 : GSs X cl W fr false t2 rest u) : GSs X cl W fr false (t1 ++ t2) (st :: rest) (sSeq s u) := gss_cons' (fun z => nomatch z) h1 h2
/-- a statement that never stores -/
theorem GS.np (h : GS X cl W fr true t1 st s) : GS X cl W fr pu t1 st s := by
  obtain ⟨ts, p, d⟩ := h
  exact ⟨ts, p, fun E l0 hne D hq => d E l0 hne D ⟨hq.nx, hq.bk, hq.ct, hq.rt, fun n σ' H' e1 s1 pe => hq.er n σ' H' e1 s1 fun _ => pe rfl⟩⟩
theorem erE {Hb : Hp} {L0 : Own} {α : Al} {ρ : Rho} {σ : L2.St} {H H' : Hp} {K : PySem.W.Frag} (E : Env K Hb L0 α ρ σ H) (s1 : Same H H') : ∃ α', Env K Hb L0 α' ρ σ H' ∧ Kp (Lof L0 α) H (Lof L0 α') H' := ⟨α, E.mono s1, Kp.of_same s1⟩
theorem gs_set (i : Nat) {x : Str} {pos' : Pos} (hN : X.N.Nodup) (he : GE X cl W e f) (hi : X.N[i]? = some x := by rfl) (hx : Loc X.env.scope x := by first | exact .inl rfl | exact .inr rfl) (hs : swapsWith e (some (.Name x pos')) pos.line X.env = pure false := by rfl)
    (hf : X.fn x = true ∨ X.env.scope.names.lookup x = some .local := by first | exact .inl rfl | exact .inr rfl) : GS X cl W fr pu [i] (.Assign [.Name x pos'] e pos) (sSet i f) := by
  obtain ⟨te, p1, d1⟩ := he
  refine ⟨_, ps_set hN hi hx p1 hs hf, fun {Hb L0 α ρ σ H} E l0 hne D hq => d1 E (bnd_ne hne) _ ⟨fun d v H1 e1 s1 i1 => ?_, fun n H1 e1 s1 => hq.er n σ H1 (bnd_raise e1) (E.same.trans s1) fun _ => erE E s1⟩⟩
  exact hq.nx _ _ _ H1 (bnd_eq e1) ((E.mono s1).setImm i i1) (Kps.set ((Kp.of_same s1).trans Env.kImm))
theorem gs_own (i : Nat) {x : Str} {pos' : Pos} (hN : X.N.Nodup) (he : GF X cl W e fa) (hi : X.N[i]? = some x := by rfl) (hx : Loc X.env.scope x := by first | exact .inl rfl | exact .inr rfl) (hs : swapsWith e (some (.Name x pos')) pos.line X.env = pure false := by rfl)
    (hf : X.fn x = true ∨ X.env.scope.names.lookup x = some .local := by first | exact .inl rfl | exact .inr rfl) : GS X cl W fr pu [i] (.Assign [.Name x pos'] e pos) (sOwn i fa) := by
  obtain ⟨te, p1, d1⟩ := he
  refine ⟨_, ps_set hN hi hx p1 hs hf, fun {Hb L0 α ρ σ H} E l0 hne D hq => d1 E (bnd_ne hne) _ ⟨fun ds p xs H1 e1 hp s1 hx i1 => ?_, fun n H1 e1 s1 => hq.er n σ H1 (bnd_raise e1) (E.same.trans s1) fun _ => erE E s1⟩⟩
  have one : ∀ a ∈ [p], H a = none ∨ a ∈ α i := fun a m => by
    rw [List.mem_singleton.mp m]
    exact .inl hp
  refine hq.nx _ _ _ H1 (bnd_eq e1) (E.put (as := [p]) s1 one (fun a m => ?_) ⟨p, xs, rfl, rfl, hx, i1.anti fun a z => ?_⟩) (Kps.set (Env.kput s1 one))
  · rw [List.mem_singleton.mp m, hx]
    exact Option.some_ne_none _
  · rcases Lof.ups_sub z with z | z
    · exact .inl z
    · exact .inr (List.mem_singleton.mp z)
theorem gs_asg {us : List Nat} {g : PyData → Rho → M Rho} (he : GE X cl W e f) (hg : GG X tg us g) (hs : swapsWithSole [tg] e pos.line X.env = pure false := by rfl) (hw : swappedStores [tg] e X.env = pure none := by rfl)
    (h1 : (assignEach [tg] X.env).map (·.2) = [assign tg X.env] := by rfl) : GS X cl W fr pu us (.Assign [tg] e pos) (sAsg g f) := by
  obtain ⟨te, p1, d1⟩ := he
  obtain ⟨⟨tg', p2, d2⟩, ng⟩ := hg
  refine ⟨_, ps_asg p1 p2 hs hw h1, fun {Hb L0 α ρ σ H} E l0 hne D hq => d1 E (bnd_ne hne) _ ⟨fun d v H1 e1 s1 i1 => ?_, fun n H1 e1 s1 => hq.er n σ H1 (bnd_raise e1) (E.same.trans s1) fun _ => erE E s1⟩⟩
  have n1 := bnd_at hne e1
  have q1 : sAsg g f ρ = _ := bnd_eq e1
  exact d2 (E.mono s1) v d i1 (bnd_ne n1) _ fun ρ' α' σ' H' e2 E2 k2 s2 o2 => hq.nx ρ' α' σ' H' (q1.trans (bnd_eq e2)) E2 ⟨(Kp.of_same s1).trans k2, fun j hj => (o2.1 j hj).1⟩
theorem gs_ret (he : GE X cl W e f) : GS X cl W .pl pu [] (.Return (some e) pos) (sRet f) := by
  obtain ⟨te, p1, d1⟩ := he
  refine ⟨_, ps_ret p1, fun {Hb L0 α ρ σ H} E l0 hne D hq => d1 E (bnd_ne hne) _ ⟨fun d v H1 e1 s1 i1 => ?_, fun n H1 e1 s1 => hq.er n σ H1 (bnd_raise e1) (E.same.trans s1) fun _ => erE E s1⟩⟩
  exact hq.rt d v H1 (bnd_eq e1) ⟨E.same.trans s1, i1.anti fun a z => .inl z⟩
theorem gs_retF (he : GF X cl W e fa) : GS X cl W .fr pu [] (.Return (some e) pos) (sRetF fa) := by
  obtain ⟨te, p1, d1⟩ := he
  refine ⟨_, ps_ret p1, fun {Hb L0 α ρ σ H} E l0 hne D hq => d1 E (bnd_ne hne) _ ⟨fun ds p xs H1 e1 hp s1 hx i1 => ?_, fun n H1 e1 s1 => hq.er n σ H1 (bnd_raise e1) (E.same.trans s1) fun _ => erE E s1⟩⟩
  exact hq.rt (.list ds) (.ref p) H1 (bnd_eq e1) ⟨E.same.trans s1, p, xs, ds, rfl, rfl, E.same.free hp, fun z => E.dom p (.inl z) hp, hx, i1.anti fun a z => z.elim (fun z => .inl (.inl z)) .inr⟩
/-- return x, x a list that this frame alone holds -/
def sRetO (i : Nat) : Rho → M Out := fun ρ => match ρ[i]? with
  | some (some (.own ds)) => ret (.rt (.list ds))
  | _ => none
theorem gs_retO (i : Nat) {x : Str} {pos' : Pos} (hN : X.N[i]? = some x := by rfl) (hv : Vis X.env.scope x := by first | exact Or.inl rfl | exact Or.inr (Or.inl rfl) | exact Or.inr (Or.inr rfl)) (hd : (x == ("__debug__" : Str)) = false := by decide)
    (hcd : (x == ("__classdict__" : Str)) = false := by decide) : GS X cl W .fr pu [] (.Return (some (.Name x pos')) pos) (sRetO i) := by
  refine ⟨_, ps_ret (pe_var hN hv hd hcd), fun {Hb L0 α ρ σ H} E l0 hne D hq => ?_⟩
  unfold sRetO at hne hq
  split at hne
  · rename_i ds e
    obtain ⟨v, h1, l, xs, h2, rfl, h3, h4⟩ := E.sl i (.own ds) e
    have e' : ρ[i]? = some (some (Sl.own ds)) := e
    rw [e'] at hq
    have hm : l ∈ α i := by rw [h2]; exact List.mem_singleton.mpr rfl
    refine ⟨.ref l, h1, hq.rt _ _ H rfl ⟨E.same, l, xs, ds, rfl, rfl, (E.new i l hm).1, (E.new i l hm).2, h3, h4.anti fun a z => z.elim .inl fun z => .inr ⟨i, by rw [z]; exact hm⟩⟩⟩
  · exact absurd rfl hne
theorem gs_retN : GS X cl W .pl pu [] (.Return none pos) (fun _ => ret (.rt .none)) :=
  ⟨_, ps_retN, fun E l0 hne D hq => hq.rt .none .non _ rfl ⟨E.same, .non⟩⟩
theorem gs_expr (he : GE X cl W e f) (hs : swapsWith e none pos.line X.env = pure false := by rfl) : GS X cl W fr pu [] (.Expr e pos) (sDrop f) := by
  obtain ⟨te, p1, d1⟩ := he
  refine ⟨_, ps_expr p1 hs, fun {Hb L0 α ρ σ H} E l0 hne D hq => d1 E (bnd_ne hne) _ ⟨fun d v H1 e1 s1 i1 => ?_, fun n H1 e1 s1 => hq.er n σ H1 (bnd_raise e1) (E.same.trans s1) fun _ => erE E s1⟩⟩
  exact hq.nx ρ α σ H1 (bnd_eq e1) (E.mono s1) (Kps.same (Kp.of_same s1))
theorem gs_pass : GS X cl W fr pu [] (.Pass pos) sNx := ⟨_, ps_pass, fun E l0 hne D hq => hq.nx _ _ _ _ rfl E (Kps.refl _ _ _)⟩
theorem gs_break : GS X cl W fr pu [] (.Break pos) sBk := ⟨_, ps_break, fun E l0 hne D hq => hq.bk _ _ _ _ rfl E (Kps.refl _ _ _)⟩
theorem gs_continue : GS X cl W fr pu [] (.Continue pos) sCt := ⟨_, ps_continue, fun E l0 hne D hq => hq.ct _ _ _ _ rfl E (Kps.refl _ _ _)⟩
theorem gs_never : GS X cl W fr pu [] st sNever := ⟨_, ps_never, fun E l0 hne => absurd rfl hne⟩
theorem gs_if {t : Rho → M Bool} {c : Expr} {th el : List Stmt} (hc : GT X cl W c t) (ha : GSs X cl W fr pu t1 th s) (hb : GSs X cl W fr pu t2 el u) : GS X cl W fr pu (t1 ++ t2) (.If c th el pos) (sIf t s u) := by
  obtain ⟨tc, p0, d0⟩ := hc
  obtain ⟨ta, p1, d1⟩ := ha
  obtain ⟨tb, p2, d2⟩ := hb
  refine ⟨_, ps_if p0 p1 p2, fun {Hb L0 α ρ σ H} E l0 hne D hq => d0 E (bnd_ne hne) _ ⟨fun b H1 e1 s1 => ?_, fun n H1 e1 s1 => hq.er n σ H1 (bnd_raise e1) (E.same.trans s1) fun _ => erE E s1⟩⟩
  have n1 := bnd_at hne e1
  have q1 : sIf t s u ρ = _ := bnd_eq e1
  have k1 : Kp (Lof L0 α) H (Lof L0 α) H1 := Kp.of_same s1
  cases b with
  | true => exact d1 (E.mono s1) l0 n1 D ⟨fun ρ2 α2 σ2 H2 e2 E2 k2 => hq.nx ρ2 α2 σ2 H2 (q1.trans e2) E2 ((Kps.pre k1 k2).sub fun _ z => List.mem_append_left _ z), fun ρ2 α2 σ2 H2 e2 E2 k2 => hq.bk ρ2 α2 σ2 H2 (q1.trans e2) E2 ((Kps.pre k1 k2).sub fun _ z => List.mem_append_left _ z), fun ρ2 α2 σ2 H2 e2 E2 k2 => hq.ct ρ2 α2 σ2 H2 (q1.trans e2) E2 ((Kps.pre k1 k2).sub fun _ z => List.mem_append_left _ z), fun d v H2 e2 r2 => hq.rt d v H2 (q1.trans e2) r2,
      fun n σ2 H2 e2 s2 pe => hq.er n σ2 H2 (q1.trans e2) s2 fun hp => let ⟨α3, E3, k3⟩ := pe hp; ⟨α3, E3, k1.trans k3⟩⟩
  | false => exact d2 (E.mono s1) l0 n1 D ⟨fun ρ2 α2 σ2 H2 e2 E2 k2 => hq.nx ρ2 α2 σ2 H2 (q1.trans e2) E2 ((Kps.pre k1 k2).sub fun _ z => List.mem_append_right _ z), fun ρ2 α2 σ2 H2 e2 E2 k2 => hq.bk ρ2 α2 σ2 H2 (q1.trans e2) E2 ((Kps.pre k1 k2).sub fun _ z => List.mem_append_right _ z), fun ρ2 α2 σ2 H2 e2 E2 k2 => hq.ct ρ2 α2 σ2 H2 (q1.trans e2) E2 ((Kps.pre k1 k2).sub fun _ z => List.mem_append_right _ z), fun d v H2 e2 r2 => hq.rt d v H2 (q1.trans e2) r2,
      fun n σ2 H2 e2 s2 pe => hq.er n σ2 H2 (q1.trans e2) s2 fun hp => let ⟨α3, E3, k3⟩ := pe hp; ⟨α3, E3, k1.trans k3⟩⟩
/-- a list that the frame gives up from here on -/
theorem gss_frz (i : Nat) (h : GSs X cl W fr false t1 sts s) : GSs X cl W fr false t1 sts (sFrz i s) := by
  obtain ⟨ts, p, d⟩ := h
  refine ⟨ts, p, fun {Hb L0 α ρ σ H} E l0 hne D hq => ?_⟩
  obtain ⟨α', E', l⟩ := E.frz i
  have k0 : Kp (Lof L0 α) H (Lof L0 α') H := ⟨fun _ _ _ q => q, fun a z => .inl (l a z)⟩
  exact d E' l0 hne D ⟨fun ρ2 α2 σ2 H2 e2 E2 k2 => hq.nx ρ2 α2 σ2 H2 e2 E2 (Kps.pre k0 k2), fun ρ2 α2 σ2 H2 e2 E2 k2 => hq.bk ρ2 α2 σ2 H2 e2 E2 (Kps.pre k0 k2), fun ρ2 α2 σ2 H2 e2 E2 k2 => hq.ct ρ2 α2 σ2 H2 e2 E2 (Kps.pre k0 k2), hq.rt, fun n σ2 H2 e2 s2 _ => hq.er n σ2 H2 e2 s2 fun z => nomatch z⟩
/-- an own list is written -/
theorem Env.mut {K : PySem.W.Frag} {Hb : Hp} {L0 : Own} {α : Al} {ρ : Rho} {σ : L2.St} {H : Hp} (E : Env K Hb L0 α ρ σ H) {i : Nat} {ds es : List PyData} {l : Addr} {xs ys : List V} (h1 : σ[i]? = some (some (.ref l))) (e0 : ρ[i]? = some (some (.own ds))) (h2 : α i = [l]) (h3 : H l = some (.lst xs)) (h4 : IsAll K (Lof L0 α) H ys es) :
    Env K Hb L0 α (ρ.set i (some (.own es))) σ (upd H l (.lst ys)) ∧ Kp (Lof L0 α) H (Lof L0 α) (upd H l (.lst ys)) := by
  have hi : i < ρ.length := (List.getElem?_eq_some_iff.mp e0).1
  have hm : l ∈ α i := by rw [h2]; exact List.mem_singleton.mpr rfl
  have hl : Lof L0 α l := .inr ⟨i, hm⟩
  have keep : ∀ a o, ¬ Lof L0 α a → H a = some o → upd H l (.lst ys) a = some o := fun a o n q => by
    rw [upd_ne (fun z => n (by rw [z]; exact hl))]
    exact q
  refine ⟨⟨fun a o q => ?_, fun a z => ?_, E.new, E.disj, by rw [List.length_set]; exact E.len, fun j t h => ?_, fun j h => E.no j fun t q => ?_⟩, keep, fun a z => .inl z⟩
  · have ne : a ≠ l := fun z => by
      have q2 := (E.new i l hm).1
      rw [← z, q] at q2
      cases q2
    rw [upd_ne ne]
    exact E.same a o q
  · by_cases e : a = l
    · rw [e, upd_same]
      exact Option.some_ne_none _
    · rw [upd_ne e]
      exact E.dom a z
  · rcases set_get h with ⟨rfl, q, _⟩ | ⟨hj, q⟩
    · cases q
      exact ⟨.ref l, h1, l, ys, h2, rfl, upd_same, h4.mv fun a o n q => ⟨n, keep a o n q⟩⟩
    · obtain ⟨w, a1, a2⟩ := E.sl j t q
      refine ⟨w, a1, a2.mv (fun a o n q => ⟨n, keep a o n q⟩) fun a m o q => ?_⟩
      have ne : a ≠ l := fun z => by
        rw [z] at m
        exact hj (E.disj j i l m hm)
      rw [upd_ne ne]
      exact q
  · by_cases hj : j = i
    · subst hj
      exact h (.own es) (List.getElem?_set_self hi)
    · refine h t ?_
      rw [List.getElem?_set_ne (Ne.symm hj)]
      exact q
/-- x.append(e), x a list that this frame alone holds -/
theorem gs_app (i : Nat) {x : Str} {px apos cpos : Pos} (he : GE X cl W e f) (hN : X.N[i]? = some x := by rfl) (hv : Vis X.env.scope x := by first | exact Or.inl rfl | exact Or.inr (Or.inl rfl) | exact Or.inr (Or.inr rfl)) (hd : (x == ("__debug__" : Str)) = false := by decide)
    (hcd : (x == ("__classdict__" : Str)) = false := by decide)
    (hbase : attributeBase (.Name x px) "append" X.env (eval (.Name x px) X.env) = eval (.Name x px) X.env := by rfl)
    (hfew : ((backTo cpos (starEach [e] X.env)).all (fun x => !x.1) && (backToKw cpos (keywordEach [] X.env)).all (fun x => x.1.isSome)
      && decide (([e] : List Expr).length + ([] : List Keyword).length + (if ([] : List Keyword).isEmpty then 0 else 1) < 30)) = true := by rfl)
    (hline : (apos.endLine == cpos.line) = true := by rfl) (hse : starEach [e] X.env = (false, eval e X.env) :: starEach [] X.env := by rfl)
    (hs : swapsWith (.Call (.Attribute (.Name x px) "append" apos) [e] [] cpos) none pos.line X.env = pure false := by rfl) :
    GS X cl W fr pu [] (.Expr (.Call (.Attribute (.Name x px) "append" apos) [e] [] cpos) pos) (sApp i f) := by
  obtain ⟨te, p1, d1⟩ := he
  refine ⟨_, ps_expr (pe_bm PySem.F.plainAttrs_list PySem.F.slot_list_append PySem.F.type_list_append mt_append (pe_var hN hv hd hcd) (pa_cons p1 pa_nil hse) hbase hfew hline hse rfl) hs, fun {Hb L0 α ρ σ H} E l0 hne D hq => ?_⟩
  unfold sApp at hne hq
  split at hne
  · rename_i ds e0
    have e0' : ρ[i]? = some (some (Sl.own ds)) := e0
    rw [e0'] at hq
    obtain ⟨v, h1, l, xs, h2, rfl, h3, h4⟩ := E.sl i (.own ds) e0
    have hi : i < ρ.length := (List.getElem?_eq_some_iff.mp e0').1
    refine ⟨.ref l, h1, .inl ⟨rfl, _, SqL.of h3⟩, d1 E (bnd_ne hne) _ ⟨fun d w H1 e1 s1 i1 => ?_, fun n H1 e1 s1 => hq.er n σ H1 (bnd_raise e1) (E.same.trans s1) fun _ => erE E s1⟩⟩
    have n1 := bnd_at hne e1
    obtain ⟨c1, c2⟩ := if_inv n1
    have q1 := (bnd_eq (k := fun d => if ds.length < 16777216 then ret (Out.nx (ρ.set i (some (.own (ds ++ [d]))))) else none) e1).trans c2
    refine ⟨l, xs, w, rfl, rfl, s1 _ _ h3, szl' (by rw [h4.len]; exact c1), ?_⟩
    obtain ⟨E2, k2⟩ := (E.mono s1).mut h1 e0' h2 (s1 _ _ h3) ((h4.same s1).append (.cons i1 .nil))
    exact hq.nx _ α σ _ q1 E2 (Kps.same ((Kp.of_same s1).trans k2))
  · exact absurd rfl hne
/-- x[k] = e, x a list that this frame alone holds -/
theorem gs_put (i : Nat) {x : Str} {px : Pos} {pix : Pos} {k : Expr} (he : GE X cl W e f) (hk : GE X cl W k g) (hN : X.N[i]? = some x := by rfl) (hv : Vis X.env.scope x := by first | exact Or.inl rfl | exact Or.inr (Or.inl rfl) | exact Or.inr (Or.inr rfl)) (hd : (x == ("__debug__" : Str)) = false := by decide)
    (hcd : (x == ("__classdict__" : Str)) = false := by decide)
    (ha : ∀ v, assign (.Subscript (.Name x px) k pix) X.env v = (do
      let ov ← holding [v] (eval (.Name x px) X.env)
      let iv ← holding [v, ov] (eval k X.env)
      standAt pix
      holding [v, ov, iv] (setItem ov iv v)
      release [v, ov, iv] []) := by intro _; rfl)
    (hs : swapsWithSole [.Subscript (.Name x px) k pix] e pos.line X.env = pure false := by rfl) (hw : swappedStores [.Subscript (.Name x px) k pix] e X.env = pure none := by rfl)
    (h1 : (assignEach [.Subscript (.Name x px) k pix] X.env).map (·.2) = [assign (.Subscript (.Name x px) k pix) X.env] := by rfl) : GS X cl W fr pu [] (.Assign [.Subscript (.Name x px) k pix] e pos) (sPut i f g) := by
  obtain ⟨te, p1, d1⟩ := he
  obtain ⟨tk, p2, d2⟩ := hk
  refine ⟨_, ps_asg p1 (pg_sub (pe_var hN hv hd hcd) p2 set_list ha) hs hw h1, fun {Hb L0 α ρ σ H} E l0 hne D hq => ?_⟩
  unfold sPut at hne hq
  split at hne
  · rename_i ds e0
    have e0' : ρ[i]? = some (some (Sl.own ds)) := e0
    rw [e0'] at hq
    obtain ⟨v, h1, l, xs, h2, rfl, h3, h4⟩ := E.sl i (.own ds) e0
    have hi : i < ρ.length := (List.getElem?_eq_some_iff.mp e0').1
    refine d1 E (bnd_ne hne) _ ⟨fun d w H1 e1 s1 i1 => ?_, fun n H1 e1 s1 => hq.er n σ H1 (bnd_raise e1) (E.same.trans s1) fun _ => erE E s1⟩
    have n1 := bnd_at hne e1
    have q1 := bnd_eq (k := fun d => bnd (g ρ) fun k => match k with
      | .int k => match ixN ds.length k with
        | some j => ret (Out.nx (ρ.set i (some (.own (ds.set j d)))))
        | none => none
      | _ => none) e1
    refine ⟨.ref l, h1, d2 (E.mono s1) (bnd_ne n1) _ ⟨fun z y H2 e2 s2 i2 => ?_, fun n H2 e2 s2 => hq.er n σ H2 (q1.trans (bnd_raise e2)) (E.same.trans (s1.trans s2)) fun _ => erE E (s1.trans s2)⟩⟩
    have n2 := bnd_at n1 e2
    have q2 := q1.trans (bnd_eq e2)
    cases z with
    | int z =>
      cases ej : ixN ds.length z with
      | none =>
        simp only [ej] at n2
        exact absurd rfl n2
      | some j =>
        simp only [ej] at q2
        have s12 := s1.trans s2
        refine ⟨l, xs, z, j, rfl, i2.intD, s12 _ _ h3, by rw [h4.len]; exact ej, ?_⟩
        obtain ⟨E2, k2⟩ := (E.mono s12).mut h1 e0' h2 (s12 _ _ h3) ((h4.same s12).set (i1.same s2) j)
        exact hq.nx _ α σ _ q2 E2 (Kps.same ((Kp.of_same s12).trans k2))
    | _ => exact absurd rfl n2
  · exact absurd rfl hne

/-! ### loops -/
theorem den_loop {K : PySem.W.Frag} {us t1 : List Nat} {gt : TG} {g : PyData → Rho → M Rho} {tb : TS} {b : Rho → M Out} (hg : DenG K us gt g) (ng : NoErG g) (hb : DenS K cl W fr false t1 tb b) {Hb : Hp} {L0 : Own} {α : Al} {ρ : Rho} {σ : L2.St} {H : Hp} {J : It} {ds : List PyData} (E : Env K Hb L0 α ρ σ H) (l0 : ∀ a, L0 a → Hb a ≠ none) (I : ItD K (Lof L0 α) H J ds)
    (hne : loopM g b ds ρ ≠ none) {D : Ends} (hq : PostS K cl W fr false (us ++ t1) Hb L0 α ρ σ H (loopM g b ds ρ) D) :
    ∃ Wv : Nat → Nat → L2.St → Hp → Prop, (∃ m, Wv 0 m σ H) ∧ ∀ i m σ H, Wv i m σ H → (J.stop i H ∧ D.nx σ H) ∨ (J.go i H ∧ ∃ N : L2.St → Hp → Prop, (∀ σ' H', N σ' H' → ∃ m', m' < m ∧ Wv (i + 1) m' σ' H') ∧ ∀ x H', J.yld i H x H' → gt x σ H' fun σ2 H2 => tb { D with nx := N, ct := N, bk := D.nx } σ2 H2) := by
  refine ⟨fun i m σ2 H2 => m + i = ds.length ∧ ∃ ρ2 α2, Env K Hb L0 α2 ρ2 σ2 H2 ∧ Kps (us ++ t1) (Lof L0 α) σ H (Lof L0 α2) σ2 H2 ∧ loopM g b (ds.drop i) ρ2 = loopM g b ds ρ, ⟨ds.length, by omega, ρ, α, E, Kps.same (Kp.refl _ _), rfl⟩, ?_⟩
  rintro i m σ2 H2 ⟨hm, ρ2, α2, E2, k2, eq⟩
  by_cases hi : i < ds.length
  · have ed : ds.drop i = ds[i] :: ds.drop (i + 1) := (List.drop_eq_getElem_cons hi)
    obtain ⟨hgo, hy⟩ := I.item i ds[i] (List.getElem?_eq_getElem hi) _ H2 k2.1 E2.dom
    refine .inr ⟨hgo, fun σ3 H3 => ∃ ρ3 α3, Env K Hb L0 α3 ρ3 σ3 H3 ∧ Kps (us ++ t1) (Lof L0 α) σ H (Lof L0 α3) σ3 H3 ∧ loopM g b (ds.drop (i + 1)) ρ3 = loopM g b ds ρ, fun σ3 H3 ⟨ρ3, α3, a1, a2, a3⟩ => ⟨m - 1, by omega, by omega, ρ3, α3, a1, a2, a3⟩, fun x H3 y => ?_⟩
    obtain ⟨s3, i3⟩ := hy x H3 y
    rw [ed] at eq
    have eq : bnd (g ds[i] ρ2) (fun ρ1 => bnd (b ρ1) fun o => loopO o (loopM g b (ds.drop (i + 1)))) = loopM g b ds ρ := eq
    have n1 : bnd (g ds[i] ρ2) (fun ρ1 => bnd (b ρ1) fun o => loopO o (loopM g b (ds.drop (i + 1)))) ≠ none := by rw [eq]; exact hne
    refine hg (E2.mono s3) x ds[i] i3 (bnd_ne n1) _ fun ρ4 α4 σ4 H4 e4 E4 k4 s4 l4 => ?_
    have n2 := bnd_at n1 e4
    have q4 := (bnd_eq (k := fun ρ1 => bnd (b ρ1) fun o => loopO o (loopM g b (ds.drop (i + 1)))) e4).symm.trans eq
    have k24 : Kps (us ++ t1) (Lof L0 α) σ H (Lof L0 α4) σ4 H4 := ⟨(k2.1.trans (Kp.of_same s3)).trans k4, fun j hj => ((l4.1 j fun z => hj (List.mem_append_left _ z)).1).trans (k2.2 j hj)⟩
    have kk : ∀ {α5 : Al} {σ5 : L2.St} {H5 : Hp}, Kps t1 (Lof L0 α4) σ4 H4 (Lof L0 α5) σ5 H5 → Kps (us ++ t1) (Lof L0 α) σ H (Lof L0 α5) σ5 H5 := fun k5 => ⟨k24.1.trans k5.1, fun j hj => (k5.2 j fun z => hj (List.mem_append_right _ z)).trans (k24.2 j hj)⟩
    refine hb E4 l0 (bnd_ne n2) _ ⟨fun ρ5 α5 σ5 H5 e5 E5 k5 => ⟨ρ5, α5, E5, kk k5, (bnd_eq (k := fun o => loopO o (loopM g b (ds.drop (i + 1)))) e5).symm.trans q4⟩,
      fun ρ5 α5 σ5 H5 e5 E5 k5 => hq.nx ρ5 α5 σ5 H5 (((bnd_eq (k := fun o => loopO o (loopM g b (ds.drop (i + 1)))) e5).symm.trans q4).symm) E5 (kk k5),
      fun ρ5 α5 σ5 H5 e5 E5 k5 => ⟨ρ5, α5, E5, kk k5, (bnd_eq (k := fun o => loopO o (loopM g b (ds.drop (i + 1)))) e5).symm.trans q4⟩,
      fun d v H5 e5 r5 => hq.rt d v H5 (((bnd_eq (k := fun o => loopO o (loopM g b (ds.drop (i + 1)))) e5).symm.trans q4).symm) r5,
      fun n σ5 H5 e5 s5 _ => hq.er n σ5 H5 (((bnd_raise (k := fun o => loopO o (loopM g b (ds.drop (i + 1)))) e5).symm.trans q4).symm) s5 fun z => nomatch z⟩
  · have ei : i = ds.length := by omega
    subst ei
    rw [List.drop_length] at eq
    exact .inl ⟨I.stop _ H2 k2.1, hq.nx ρ2 α2 σ2 H2 eq.symm E2 k2⟩
theorem gs_for {us : List Nat} {g : PyData → Rho → M Rho} {iter : Expr} {body : List Stmt} {b : Rho → M Out} (hp : PassesOwn (model X.prog X.w) X.A X.env X.xe) (hc : X.calm = true) (hi : GI X cl W tg iter fa) (hg : GG X tg us g) (hb : GSs X cl W fr false t1 body b)
    (hs : ∀ x, foldedSetIterable iter X.env x = pure x := by intro _; rfl) : GS X cl W fr false (us ++ t1) (.For tg iter body [] pos) (sFor g fa b) := by
  obtain ⟨wi, p1, d1⟩ := hi
  obtain ⟨⟨tg', p2, d2⟩, ng⟩ := hg
  obtain ⟨tb, p3, d3⟩ := hb
  refine ⟨_, ps_for hp hc p1 p2 p3 hs, fun {Hb L0 α ρ σ H} E l0 hne D hq => d1 E (bnd_ne hne) _ (fun ds J H1 e1 s1 I => ?_) fun n H1 e1 s1 => hq.er n σ H1 (bnd_raise e1) (E.same.trans s1) fun z => nomatch z⟩
  have n1 : loopM g b ds ρ ≠ none := bnd_at (k := fun ds => loopM g b ds ρ) hne e1
  have q1 : sFor g fa b ρ = loopM g b ds ρ := bnd_eq (k := fun ds => loopM g b ds ρ) e1
  have k1 : Kp (Lof L0 α) H (Lof L0 α) H1 := Kp.of_same s1
  exact den_loop d2 ng d3 (E.mono s1) l0 I n1 ⟨fun ρ2 α2 σ2 H2 e2 E2 k2 => hq.nx ρ2 α2 σ2 H2 (q1.trans e2) E2 (Kps.pre k1 k2), fun ρ2 α2 σ2 H2 e2 E2 k2 => hq.bk ρ2 α2 σ2 H2 (q1.trans e2) E2 (Kps.pre k1 k2), fun ρ2 α2 σ2 H2 e2 E2 k2 => hq.ct ρ2 α2 σ2 H2 (q1.trans e2) E2 (Kps.pre k1 k2), fun d v H2 e2 r2 => hq.rt d v H2 (q1.trans e2) r2,
    fun n σ2 H2 e2 s2 _ => hq.er n σ2 H2 (q1.trans e2) s2 fun z => nomatch z⟩
/-- raise X('..') -/
theorem gs_raise (n : Ex) {x m : Str} {j : Nat} {p p2 pos' : Pos} (hc : X.calm = true) (tk : Takes X W) (q : PySem.W.excIn X.K (cl n) [.type "ValueError", .type "Exception", .type "BaseException", .type "object"] "ValueError.__new__" = true) (gC : X.mg x = some (.ref (cl n))) (kC : PySem.W.keepIn X.K (.ref (cl n)) = true)
    (r : Raises X (.ref (cl n))) (hg : Gl X x := by rfl) (hdb : (x == ("__debug__" : Str)) = false := by decide) : GS X cl W fr pu [] (.Raise (some (.Call (.Name x p) [.Constant (.str m) j p2] [] pos')) none pos) (sRaise n) :=
  ⟨_, ps_raise hc tk (pmk_own PySem.F.excBase_ValueError q gC kC r hg hdb), fun E l0 hne D hq => hq.er n _ _ rfl E.same fun _ => erE E (Same.refl _)⟩
end
end VW
namespace VW
open PySem PySem.Spec PyProof.Rows L2

/-! ### one reading for all contexts -/
def tcE (K : PySem.W.Frag) (cl : Ex → Addr) (W : WX) (f : Rho → M PyData) : TE := fun σ H Q => ∃ Hb L0 α ρ, Env K Hb L0 α ρ σ H ∧ f ρ ≠ none ∧ PostE K cl W (Lof L0 α) σ H (f ρ) Q
theorem GE.can {X : Cx} {cl : Ex → Addr} {W : WX} {e : Expr} {f : Rho → M PyData} (h : GE X cl W e f) : PE X e (tcE X.K cl W f) := by
  obtain ⟨te, p, d⟩ := h
  exact ⟨fun pins s σ H Q I ⟨Hb, L0, α, ρ, E, hne, hq⟩ => p.run pins s σ H Q I (d E hne Q hq)⟩
theorem den_tcE {K : PySem.W.Frag} {cl : Ex → Addr} {W : WX} {f : Rho → M PyData} : DenE K cl W (tcE K cl W f) f := fun {Hb L0 α ρ σ H} E hne Q hq => ⟨Hb, L0, α, ρ, E, hne, hq⟩
def tcT (K : PySem.W.Frag) (cl : Ex → Addr) (W : WX) (f : Rho → M Bool) : TT := fun σ H Q => ∃ Hb L0 α ρ, Env K Hb L0 α ρ σ H ∧ f ρ ≠ none ∧ PostT cl W σ H (f ρ) Q
theorem GT.can {X : Cx} {cl : Ex → Addr} {W : WX} {e : Expr} {f : Rho → M Bool} (h : GT X cl W e f) : PT X e (tcT X.K cl W f) := by
  obtain ⟨te, p, d⟩ := h
  exact ⟨fun pins s σ H Q I ⟨Hb, L0, α, ρ, E, hne, hq⟩ => p.run pins s σ H Q I (d E hne Q hq)⟩
theorem den_tcT {K : PySem.W.Frag} {cl : Ex → Addr} {W : WX} {f : Rho → M Bool} : DenT K cl W (tcT K cl W f) f := fun {Hb L0 α ρ σ H} E hne Q hq => ⟨Hb, L0, α, ρ, E, hne, hq⟩
def tcG (K : PySem.W.Frag) (ts : List Nat) (f : PyData → Rho → M Rho) : TG := fun v σ H Q => ∃ Hb L0 α ρ d, Env K Hb L0 α ρ σ H ∧ Is K (Lof L0 α) H v d ∧ f d ρ ≠ none ∧
  (∀ ρ' α' σ' H', f d ρ = some (.ok ρ') → Env K Hb L0 α' ρ' σ' H' → Kp (Lof L0 α) H (Lof L0 α') H' → Same H H' → Out1 ts α α' σ σ' → Q σ' H')
theorem GG.can {X : Cx} {e : Expr} {ts : List Nat} {f : PyData → Rho → M Rho} (h : GG X e ts f) : PG X e (tcG X.K ts f) := by
  obtain ⟨⟨g, p, d⟩, _⟩ := h
  exact ⟨fun pins s σ H v u Q I r ⟨Hb, L0, α, ρ, z, E, iv, hne, hq⟩ => p.run pins s σ H v u Q I r (d E v z iv hne Q hq)⟩
theorem den_tcG {K : PySem.W.Frag} {ts : List Nat} {f : PyData → Rho → M Rho} : DenG K ts (tcG K ts f) f := fun {Hb L0 α ρ σ H} E v d iv hne Q hq => ⟨Hb, L0, α, ρ, d, E, iv, hne, hq⟩

/-! ### comprehensions -/
def wipeR (ρ : Rho) : List Nat → Rho
  | [] => ρ
  | v :: vs => (wipeR ρ vs).set v none
def plainAt (ρ : Rho) (i : Nat) : Bool := match ρ[i]? with
  | some (some (.own _)) => false
  | some (some (.deep _)) => false
  | _ => true
theorem wipe_get (σ : L2.St) (j : Nat) : ∀ vs : List Nat, (wipe σ vs)[j]? = if j ∈ vs then (if j < σ.length then some none else none) else σ[j]?
  | [] => by simp [wipe]
  | v :: vs => by
    have ih := wipe_get σ j vs
    unfold wipe
    by_cases h : v = j
    · subst h
      rw [if_pos List.mem_cons_self]
      by_cases hl : v < σ.length
      · rw [if_pos hl, List.getElem?_set_self (by rw [wipe_length]; exact hl)]
      · rw [if_neg hl, List.getElem?_eq_none (by rw [List.length_set, wipe_length]; omega)]
    · rw [List.getElem?_set_ne h, ih]
      by_cases hm : j ∈ vs
      · rw [if_pos hm, if_pos (List.mem_cons_of_mem _ hm)]
      · rw [if_neg hm, if_neg (fun z => (List.mem_cons.mp z).elim (fun z => h z.symm) hm)]
theorem wipeR_get (ρ : Rho) (j : Nat) : ∀ vs : List Nat, (wipeR ρ vs)[j]? = if j ∈ vs then (if j < ρ.length then some none else none) else ρ[j]?
  | [] => by simp [wipeR]
  | v :: vs => by
    have ih := wipeR_get ρ j vs
    have hlen : ∀ vs, (wipeR ρ vs).length = ρ.length := fun vs => by
      induction vs with
      | nil => rfl
      | cons v vs ih => unfold wipeR; rw [List.length_set, ih]
    unfold wipeR
    by_cases h : v = j
    · subst h
      rw [if_pos List.mem_cons_self]
      by_cases hl : v < ρ.length
      · rw [if_pos hl, List.getElem?_set_self (by rw [hlen]; exact hl)]
      · rw [if_neg hl, List.getElem?_eq_none (by rw [List.length_set, hlen]; omega)]
    · rw [List.getElem?_set_ne h, ih]
      by_cases hm : j ∈ vs
      · rw [if_pos hm, if_pos (List.mem_cons_of_mem _ hm)]
      · rw [if_neg hm, if_neg (fun z => (List.mem_cons.mp z).elim (fun z => h z.symm) hm)]
theorem wipeR_length (ρ : Rho) : ∀ vs : List Nat, (wipeR ρ vs).length = ρ.length
  | [] => rfl
  | v :: vs => by unfold wipeR; rw [List.length_set, wipeR_length ρ vs]
theorem wipe_eq {σ σ2 : L2.St} {vs : List Nat} (h : ∀ j, j ∉ vs → σ2[j]? = σ[j]?) (hl : σ2.length = σ.length) : wipe σ2 vs = wipe σ vs := by
  apply List.ext_getElem?
  intro j
  rw [wipe_get, wipe_get, hl]
  by_cases hm : j ∈ vs
  · rw [if_pos hm, if_pos hm]
  · rw [if_neg hm, if_neg hm]
    exact h j hm
theorem wipe_wipe (σ : L2.St) (vs : List Nat) : wipe (wipe σ vs) vs = wipe σ vs := wipe_eq (fun j hj => by rw [wipe_get, if_neg hj]) (wipe_length σ vs)
section
variable {K : PySem.W.Frag} {Hb : Hp} {L0 : Own} {α : Al} {ρ : Rho} {σ : L2.St} {H H' : Hp}
theorem Env.plain (E : Env K Hb L0 α ρ σ H) {i : Nat} (h : plainAt ρ i = true) : α i = [] := by
  cases e : ρ[i]? with
  | none => exact E.no i fun s q => by rw [e] at q; cases q
  | some t =>
    cases t with
    | none => exact E.no i fun s q => by rw [e] at q; cases q
    | some s =>
      obtain ⟨v, _, h2⟩ := E.sl i s e
      cases s with
      | imm d => exact h2.1
      | own ds => unfold plainAt at h; rw [e] at h; cases h
      | deep dss => unfold plainAt at h; rw [e] at h; cases h
theorem Env.wipe (E : Env K Hb L0 α ρ σ H) {vs : List Nat} (h : vs.all (plainAt ρ) = true) : Env K Hb L0 α (wipeR ρ vs) (L2.wipe σ vs) H := by
  refine ⟨E.same, E.dom, E.new, E.disj, by rw [wipeR_length, wipe_length]; exact E.len, fun i s e => ?_, fun i e => ?_⟩
  · rw [wipeR_get] at e
    by_cases hm : i ∈ vs
    · rw [if_pos hm] at e
      split at e <;> cases e
    · rw [if_neg hm] at e
      obtain ⟨v, h1, h2⟩ := E.sl i s e
      exact ⟨v, by rw [wipe_get, if_neg hm]; exact h1, h2⟩
  · by_cases hm : i ∈ vs
    · exact E.plain (List.all_eq_true.mp h i hm)
    · refine E.no i fun s q => e s ?_
      rw [wipeR_get, if_neg hm]
      exact q
/-- one more address that nobody here may name -/
theorem Env.more (E : Env K Hb L0 α ρ σ H) {D : Addr} (hD : H D = none) {o : HO} : Env K Hb (fun a => L0 a ∨ a = D) α ρ σ (upd H D o) := by
  have hs : Same H (upd H D o) := Same.new hD
  have lof : ∀ a, Lof (fun a => L0 a ∨ a = D) α a → Lof L0 α a ∨ a = D := fun a h => by
    rcases h with (h | h) | ⟨j, h⟩
    · exact .inl (.inl h)
    · exact .inr h
    · exact .inl (.inr ⟨j, h⟩)
  refine ⟨E.same.trans hs, fun a h => ?_, fun i a h => ⟨(E.new i a h).1, fun z => ?_⟩, E.disj, E.len, fun i s e => ?_, E.no⟩
  · rcases lof a h with h | h
    · exact (E.mono hs).dom a h
    · rw [h, upd_same]
      exact Option.some_ne_none _
  · rcases z with z | z
    · exact (E.new i a h).2 z
    · exact E.dom a (.inr ⟨i, h⟩) (by rw [z]; exact hD)
  · obtain ⟨v, h1, h2⟩ := E.sl i s e
    refine ⟨v, h1, h2.mv (fun a u n q => ⟨fun z => ?_, hs a u q⟩) fun a _ u q => hs a u q⟩
    rcases lof a z with z | z
    · exact n z
    · rw [z, hD] at q
      cases q
/-- the list that grows grows -/
theorem Env.grow (E : Env K Hb (fun a => L0 a ∨ a = D) α ρ σ H) (nb : Hb D = none) (nD : ∀ i, D ∉ α i) {o : HO} : Env K Hb (fun a => L0 a ∨ a = D) α ρ σ (upd H D o) := by
  have keep : ∀ a u, ¬ Lof (fun a => L0 a ∨ a = D) α a → H a = some u → upd H D o a = some u := fun a u n q => by
    rw [upd_ne (fun z => n (.inl (.inr z)))]
    exact q
  refine ⟨fun a u q => ?_, fun a h => ?_, E.new, E.disj, E.len, fun i s e => ?_, E.no⟩
  · rw [upd_ne (fun z => by rw [z, nb] at q; cases q)]
    exact E.same a u q
  · by_cases z : a = D
    · rw [z, upd_same]
      exact Option.some_ne_none _
    · rw [upd_ne z]
      exact E.dom a h
  · obtain ⟨v, h1, h2⟩ := E.sl i s e
    refine ⟨v, h1, h2.mv (fun a u n q => ⟨n, keep a u n q⟩) fun a m u q => ?_⟩
    rw [upd_ne (fun z => nD i (by rw [← z]; exact m))]
    exact q
end
def lcM (g : PyData → Rho → M Rho) (t : Rho → M Bool) (f : Rho → M PyData) : List PyData → Rho → M (List PyData)
  | [], _ => ret []
  | d :: ds, ρ => bnd (g d ρ) fun ρ1 => bnd (t ρ1) fun b => match b with
    | true => bnd (f ρ1) fun z => bnd (lcM g t f ds ρ) fun zs => ret (z :: zs)
    | false => lcM g t f ds ρ
def noEr {α : Type} : M α → M α
  | some (.ok a) => some (.ok a)
  | _ => none
theorem noEr_ok {α : Type} {m : M α} (h : noEr m ≠ none) : ∃ a, m = some (.ok a) ∧ noEr m = some (.ok a) := by
  cases m with
  | none => exact absurd rfl h
  | some r =>
    cases r with
    | ok a => exact ⟨a, rfl, rfl⟩
    | er n => exact absurd rfl h
def mYes : Rho → M Bool := fun _ => ret true
/-- [f for target in wi if t]; vs: the comprehension's own slots -/
def mLc (vs : List Nat) (wi : Rho → M (List PyData)) (g : PyData → Rho → M Rho) (t : Rho → M Bool) (f : Rho → M PyData) : Rho → M (List PyData) := fun ρ => bnd (wi ρ) fun ds =>
  if vs.all (plainAt ρ) = true ∧ ds.length ≤ 16777216 then noEr (lcM g t f ds (wipeR ρ vs)) else none
abbrev W0 : WX := fun _ _ _ _ => False
theorem lcM_cons {g : PyData → Rho → M Rho} {t : Rho → M Bool} {f : Rho → M PyData} {d : PyData} {ds zs : List PyData} {ρ : Rho} (h : lcM g t f (d :: ds) ρ = some (.ok zs)) :
    ∃ ρ1 b, g d ρ = some (.ok ρ1) ∧ t ρ1 = some (.ok b) ∧ ((b = true ∧ ∃ z zs', f ρ1 = some (.ok z) ∧ lcM g t f ds ρ = some (.ok zs') ∧ zs = z :: zs') ∨ (b = false ∧ lcM g t f ds ρ = some (.ok zs))) := by
  have h' : bnd (g d ρ) (fun ρ1 => bnd (t ρ1) fun b => match b with
    | true => bnd (f ρ1) fun z => bnd (lcM g t f ds ρ) fun zs => ret (z :: zs)
    | false => lcM g t f ds ρ) = some (.ok zs) := h
  obtain ⟨ρ1, h1, h2⟩ := bnd_ok_inv h'
  obtain ⟨b, h3, h4⟩ := bnd_ok_inv h2
  refine ⟨ρ1, b, h1, h3, ?_⟩
  cases b with
  | true =>
    obtain ⟨z, h5, h6⟩ := bnd_ok_inv h4
    obtain ⟨zs', h7, h8⟩ := bnd_ok_inv h6
    exact .inl ⟨rfl, z, zs', h5, h7, (ret_ok h8).symm⟩
  | false => exact .inr ⟨rfl, h4⟩
theorem den_lc {K : PySem.W.Frag} {cl : Ex → Addr} {W : WX} {wi : TI} {gt : TG} {tt : TT} {te : TE} {fa : Rho → M (List PyData)} {ts vs : List Nat} {g : PyData → Rho → M Rho} {t : Rho → M Bool} {f : Rho → M PyData} (hsub : ∀ j ∈ ts, j ∈ vs)
    (d0 : DenI K cl W wi fa) (dg : DenG K ts gt g) (dt : DenT K cl W0 tt t) (de : DenE K cl W0 te f) : DenF K cl W (tLc wi gt tt te vs) (mLc vs fa g t f) := by
  intro Hb L0 α ρ σ H E hne Q hq
  refine d0 E (bnd_ne hne) _ (fun ds J H1 e1 s1 I => ?_) fun n H1 e1 s1 => hq.2 n H1 (bnd_raise e1) s1
  have n1 := bnd_at hne e1
  have q1 : mLc vs fa g t f ρ = _ := bnd_eq e1
  obtain ⟨⟨c1, c2⟩, c3⟩ := if_inv n1
  rw [c3] at n1
  obtain ⟨zs, h1, h2⟩ := noEr_ok n1
  have q2 := q1.trans (c3.trans h2)
  have E1 := E.mono s1
  intro D hD
  have nD : ∀ i, D ∉ α i := fun i m => E1.dom D (.inr ⟨i, m⟩) hD
  have nb : Hb D = none := E1.same.free hD
  have nL : ¬ Lof L0 α D := fun z => E1.dom D z hD
  have lofD : ∀ (α' : Al) a, Lof (fun a => L0 a ∨ a = D) α' a ↔ Lof L0 α' a ∨ a = D := fun α' a => by
    constructor
    · rintro ((h | h) | ⟨j, h⟩)
      · exact .inl (.inl h)
      · exact .inr h
      · exact .inl (.inr ⟨j, h⟩)
    · rintro ((h | ⟨j, h⟩) | h)
      · exact .inl (.inl h)
      · exact .inr ⟨j, h⟩
      · exact .inl (.inr h)
  have base : Env K Hb (fun a => L0 a ∨ a = D) α (wipeR ρ vs) (wipe σ vs) (upd H1 D (.lst [])) := (E1.wipe c1).more hD
  refine ⟨fun i m H2 => m + i = ds.length ∧ Env K Hb (fun a => L0 a ∨ a = D) α (wipeR ρ vs) (wipe σ vs) H2 ∧ (∀ a o, a ≠ D → H1 a = some o → H2 a = some o) ∧ ∃ acc ys rest, H2 D = some (.lst acc) ∧ IsAll K (fun a => Lof L0 α a ∨ a = D) H2 acc ys ∧ ys.length ≤ i ∧ lcM g t f (ds.drop i) (wipeR ρ vs) = some (.ok rest) ∧ ys ++ rest = zs,
    ⟨ds.length, by omega, base, fun a o n q => by rw [upd_ne n]; exact q, [], [], zs, upd_same, .nil, Nat.zero_le _, h1, rfl⟩, ?_⟩
  rintro i m H2 ⟨hm, E2, k2, acc, ys, rest, a1, a2, a3, a4, a5⟩
  have s2 : Same H1 H2 := fun a o q => k2 a o (fun z => by rw [z, hD] at q; cases q) q
  have kp : Kp (Lof L0 α) H1 (Lof (fun a => L0 a ∨ a = D) α) H2 := ⟨fun a o _ q => s2 a o q, fun a z => ((lofD α a).mp z).elim .inl fun z => .inr (by rw [z]; exact hD)⟩
  by_cases hi : i < ds.length
  · have ed : ds.drop i = ds[i] :: ds.drop (i + 1) := List.drop_eq_getElem_cons hi
    rw [ed] at a4
    obtain ⟨ρ1, b, b1, b2, b3⟩ := lcM_cons a4
    obtain ⟨hgo, hy⟩ := I.item i ds[i] (List.getElem?_eq_getElem hi) _ H2 kp E2.dom
    refine .inr ⟨hgo, fun H3 => Env K Hb (fun a => L0 a ∨ a = D) α (wipeR ρ vs) (wipe σ vs) H3 ∧ (∀ a o, a ≠ D → H1 a = some o → H3 a = some o) ∧ ∃ acc ys rest, H3 D = some (.lst acc) ∧ IsAll K (fun a => Lof L0 α a ∨ a = D) H3 acc ys ∧ ys.length ≤ i + 1 ∧ lcM g t f (ds.drop (i + 1)) (wipeR ρ vs) = some (.ok rest) ∧ ys ++ rest = zs,
      fun H3 ⟨r1, r2, acc, ys, rest, r3⟩ => ⟨m - 1, by omega, by omega, r1, r2, acc, ys, rest, r3⟩, fun x H3 y => ?_⟩
    obtain ⟨s3, i3⟩ := hy x H3 y
    refine dg (E2.mono s3) x ds[i] i3 (by rw [b1]; exact Option.some_ne_none _) _ fun ρ4 α4 σ4 H4 e4 E4 k4 s4 o4 => ?_
    rw [b1] at e4
    cases e4
    have hw : wipe σ4 vs = wipe σ vs := by
      rw [← wipe_wipe σ vs]
      exact wipe_eq (fun j hj => (o4.1 j fun z => hj (hsub j z)).1) o4.2
    refine ⟨hw, dt E4 (by rw [b2]; exact Option.some_ne_none _) _ ⟨fun b' H5 e5 s5 => ?_, fun n H5 e5 _ => by rw [b2] at e5; cases e5⟩⟩
    rw [b2] at e5
    cases e5
    have s25 : Same H2 H5 := (s3.trans s4).trans s5
    have up : ∀ a, (Lof L0 α a ∨ a = D) → Lof (fun a => L0 a ∨ a = D) α4 a := fun a z => by
      rcases z with (z | ⟨j, z⟩) | z
      · exact .inl (.inl z)
      · by_cases hj : j ∈ ts
        · rw [E.plain (List.all_eq_true.mp c1 j (hsub j hj))] at z
          cases z
        · exact .inr ⟨j, by rw [(o4.1 j hj).2]; exact z⟩
      · exact .inl (.inr z)
    have at5 : H5 D = some (.lst acc) := s25 _ _ a1
    have k15 : ∀ a o, a ≠ D → H1 a = some o → H5 a = some o := fun a o n q => s25 a o (k2 a o n q)
    rcases b3 with ⟨rfl, z, zs', b4, b5, rfl⟩ | ⟨rfl, b4⟩
    · show te σ4 H5 _
      refine de (E4.mono s5) (by rw [b4]; exact Option.some_ne_none _) _ ⟨fun w y H6 e6 s6 i6 => ?_, fun n H6 e6 _ => by rw [b4] at e6; cases e6⟩
      rw [b4] at e6
      cases e6
      have s26 := s25.trans s6
      have len := a2.len
      refine ⟨acc, s6 _ _ at5, szl' (by omega), ((E2.mono s26).grow nb nD), fun a o n q => ?_, acc ++ [y], ys ++ [z], zs', upd_same, ?_, ?_, b5, by rw [List.append_assoc]; exact a5⟩
      · rw [upd_ne n]
        exact s6 a o (k15 a o n q)
      · refine ((a2.same s26).append (.cons (i6.anti up) .nil)).mv fun a o n q => ⟨n, ?_⟩
        rw [upd_ne (fun z => n (.inr z))]
        exact q
      · rw [List.length_append, List.length_singleton]
        omega
    · show Env K Hb (fun a => L0 a ∨ a = D) α (wipeR ρ vs) (wipe σ vs) H5 ∧ _
      exact ⟨E2.mono s25, k15, acc, ys, rest, at5, a2.same s25, by omega, b4, a5⟩
  · have ei : i = ds.length := by omega
    subst ei
    rw [List.drop_length] at a4
    have er : rest = [] := by
      have a4' : ret ([] : List PyData) = some (.ok rest) := a4
      exact (ret_ok a4').symm
    subst er
    rw [List.append_nil] at a5
    subst a5
    exact .inl ⟨I.stop _ H2 kp, hq.1 ys D acc H2 q2 (s1.free hD) (s1.trans s2) a1 a2⟩
section
variable {X : Cx} {cl : Ex → Addr} {W : WX} {elt tg iter c : Expr} {scope : Scope} {fa : Rho → M (List PyData)} {ts : List Nat} {g : PyData → Rho → M Rho} {t : Rho → M Bool} {f : Rho → M PyData} {pos p : Pos}
theorem gf_lc (own : List (Str × Nat)) (hc : X.calm = true) (hN : X.N.Nodup) (hi : GI X cl W tg iter fa) (ok : BlkOk X.N X.env.scope scope own) (hsub : ∀ j ∈ ts, j ∈ own.map (·.2))
    (hg : ∀ (s : Shared) (H : Hp) (C : Addr) (cs : List (Str × Addr)) (fp : List Addr), GG (X.blk s H scope (compEnvC scope cs C X.env) fp) tg ts g)
    (he : ∀ (s : Shared) (H : Hp) (C : Addr) (cs : List (Str × Addr)) (fp : List Addr), GE (X.blk s H scope (compEnvC scope cs C X.env) fp) cl W0 elt f) (hs : ∀ x, foldedSetIterable iter X.env x = pure x := by intro _; rfl) :
    GF X cl W (.ListComp elt [⟨tg, iter, [], 0⟩] scope pos) (mLc (own.map (·.2)) fa g mYes f) := by
  obtain ⟨wi, p0, d0⟩ := hi
  refine ⟨_, pe_lc (g := tcG X.K ts g) (tt := tYes) (te := tcE X.K cl W0 f) hc hN p0 ok (fun s H C cs fp => (hg s H C cs fp).can) (fun _ _ _ _ _ => pts_nil) (fun s H C cs fp => (he s H C cs fp).can) hs, den_lc hsub d0 den_tcG (fun {Hb L0 α ρ σ H} E hne Q hq => ?_) den_tcE⟩
  exact hq.1 true H rfl (Same.refl H)
theorem gf_lcIf (own : List (Str × Nat)) (hc : X.calm = true) (hN : X.N.Nodup) (hi : GI X cl W tg iter fa) (ok : BlkOk X.N X.env.scope scope own) (hsub : ∀ j ∈ ts, j ∈ own.map (·.2))
    (hg : ∀ (s : Shared) (H : Hp) (C : Addr) (cs : List (Str × Addr)) (fp : List Addr), GG (X.blk s H scope (compEnvC scope cs C X.env) fp) tg ts g)
    (ht : ∀ (s : Shared) (H : Hp) (C : Addr) (cs : List (Str × Addr)) (fp : List Addr), GT (X.blk s H scope (compEnvC scope cs C X.env) fp) cl W0 c t)
    (he : ∀ (s : Shared) (H : Hp) (C : Addr) (cs : List (Str × Addr)) (fp : List Addr), GE (X.blk s H scope (compEnvC scope cs C X.env) fp) cl W0 elt f) (hs : ∀ x, foldedSetIterable iter X.env x = pure x := by intro _; rfl) :
    GF X cl W (.ListComp elt [⟨tg, iter, [c], 0⟩] scope pos) (mLc (own.map (·.2)) fa g t f) := by
  obtain ⟨wi, p0, d0⟩ := hi
  exact ⟨_, pe_lc (g := tcG X.K ts g) (tt := tcT X.K cl W0 t) (te := tcE X.K cl W0 f) hc hN p0 ok (fun s H C cs fp => (hg s H C cs fp).can) (fun s H C cs fp => pts_one (ht s H C cs fp).can) (fun s H C cs fp => (he s H C cs fp).can) hs, den_lc hsub d0 den_tcG den_tcT den_tcE⟩
variable {fr : Md} {pu : Bool} {y : Str} {py spos : Pos}
/-- y = [..]: plain, or held -/
theorem den_asgF {te : TE} {K : PySem.W.Frag} (i : Nat) (d1 : DenF K cl W te fa) : DenS K cl W fr pu [i] (tAsg te (gName i)) (sSet i (mL fa)) := by
  intro Hb L0 α ρ σ H E l0 hne D hq
  have n0 : mL fa ρ ≠ none := bnd_ne hne
  refine d1 E (bnd_ne n0) _ ⟨fun ds p xs H1 e1 hp s1 hx i1 => ?_, fun n H1 e1 s1 => hq.er n σ H1 (bnd_raise (bnd_raise e1)) (E.same.trans s1) fun _ => erE E s1⟩
  have q1 : mL fa ρ = ret (.list ds) := bnd_eq e1
  have q2 : sSet i (mL fa) ρ = ret (.nx (ρ.set i (some (.imm (.list ds))))) := bnd_eq q1
  refine hq.nx _ _ _ H1 q2 ((E.mono s1).setImm i (.lst (fun z => E.dom p z hp) hx (i1.anti fun _ z => .inl z))) (Kps.set ((Kp.of_same s1).trans Env.kImm))
theorem den_ownF {te : TE} {K : PySem.W.Frag} (i : Nat) (d1 : DenF K cl W te fa) : DenS K cl W fr pu [i] (tAsg te (gName i)) (sOwn i fa) := by
  intro Hb L0 α ρ σ H E l0 hne D hq
  refine d1 E (bnd_ne hne) _ ⟨fun ds p xs H1 e1 hp s1 hx i1 => ?_, fun n H1 e1 s1 => hq.er n σ H1 (bnd_raise e1) (E.same.trans s1) fun _ => erE E s1⟩
  have one : ∀ a ∈ [p], H a = none ∨ a ∈ α i := fun a m => by
    rw [List.mem_singleton.mp m]
    exact .inl hp
  refine hq.nx _ _ _ H1 (bnd_eq e1) (E.put (as := [p]) s1 one (fun a m => ?_) ⟨p, xs, rfl, rfl, hx, i1.anti fun a z => ?_⟩) (Kps.set (Env.kput s1 one))
  · rw [List.mem_singleton.mp m, hx]
    exact Option.some_ne_none _
  · rcases Lof.ups_sub z with z | z
    · exact .inl z
    · exact .inr (List.mem_singleton.mp z)
theorem gs_setLc (i : Nat) (own : List (Str × Nat)) (hc : X.calm = true) (hN : X.N.Nodup) (hi : GI X cl W tg iter fa) (ok : BlkOk X.N X.env.scope scope own) (hsub : ∀ j ∈ ts, j ∈ own.map (·.2))
    (hg : ∀ (s : Shared) (H : Hp) (C : Addr) (cs : List (Str × Addr)) (fp : List Addr), GG (X.blk s H scope (compEnvC scope cs C X.env) fp) tg ts g)
    (he : ∀ (s : Shared) (H : Hp) (C : Addr) (cs : List (Str × Addr)) (fp : List Addr), GE (X.blk s H scope (compEnvC scope cs C X.env) fp) cl W0 elt f)
    (hsw : swapsWith (.ListComp elt [⟨tg, iter, [], 0⟩] scope pos) (some (.Name y py)) spos.line X.env = pure true) (hy : X.N[i]? = some y := by rfl) (hyl : X.env.scope.names.lookup y = some .local := by rfl) (hs : ∀ x, foldedSetIterable iter X.env x = pure x := by intro _; rfl) :
    GS X cl W fr pu [i] (.Assign [.Name y py] (.ListComp elt [⟨tg, iter, [], 0⟩] scope pos) spos) (sSet i (mL (mLc (own.map (·.2)) fa g mYes f))) := by
  obtain ⟨wi, p0, d0⟩ := hi
  refine ⟨_, ps_setLc (g := tcG X.K ts g) (tt := tYes) (te := tcE X.K cl W0 f) hc hN hy hyl hsw p0 ok (fun s H C cs fp => (hg s H C cs fp).can) (fun _ _ _ _ _ => pts_nil) (fun s H C cs fp => (he s H C cs fp).can) hs, den_asgF i (den_lc hsub d0 den_tcG (fun {Hb L0 α ρ σ H} E hne Q hq => ?_) den_tcE)⟩
  exact hq.1 true H rfl (Same.refl H)
theorem gs_ownLc (i : Nat) (own : List (Str × Nat)) (hc : X.calm = true) (hN : X.N.Nodup) (hi : GI X cl W tg iter fa) (ok : BlkOk X.N X.env.scope scope own) (hsub : ∀ j ∈ ts, j ∈ own.map (·.2))
    (hg : ∀ (s : Shared) (H : Hp) (C : Addr) (cs : List (Str × Addr)) (fp : List Addr), GG (X.blk s H scope (compEnvC scope cs C X.env) fp) tg ts g)
    (he : ∀ (s : Shared) (H : Hp) (C : Addr) (cs : List (Str × Addr)) (fp : List Addr), GE (X.blk s H scope (compEnvC scope cs C X.env) fp) cl W0 elt f)
    (hsw : swapsWith (.ListComp elt [⟨tg, iter, [], 0⟩] scope pos) (some (.Name y py)) spos.line X.env = pure true) (hy : X.N[i]? = some y := by rfl) (hyl : X.env.scope.names.lookup y = some .local := by rfl) (hs : ∀ x, foldedSetIterable iter X.env x = pure x := by intro _; rfl) :
    GS X cl W fr pu [i] (.Assign [.Name y py] (.ListComp elt [⟨tg, iter, [], 0⟩] scope pos) spos) (sOwn i (mLc (own.map (·.2)) fa g mYes f)) := by
  obtain ⟨wi, p0, d0⟩ := hi
  refine ⟨_, ps_setLc (g := tcG X.K ts g) (tt := tYes) (te := tcE X.K cl W0 f) hc hN hy hyl hsw p0 ok (fun s H C cs fp => (hg s H C cs fp).can) (fun _ _ _ _ _ => pts_nil) (fun s H C cs fp => (he s H C cs fp).can) hs, den_ownF i (den_lc hsub d0 den_tcG (fun {Hb L0 α ρ σ H} E hne Q hq => ?_) den_tcE)⟩
  exact hq.1 true H rfl (Same.refl H)
theorem gs_setLcIf (i : Nat) (own : List (Str × Nat)) (hc : X.calm = true) (hN : X.N.Nodup) (hi : GI X cl W tg iter fa) (ok : BlkOk X.N X.env.scope scope own) (hsub : ∀ j ∈ ts, j ∈ own.map (·.2))
    (hg : ∀ (s : Shared) (H : Hp) (C : Addr) (cs : List (Str × Addr)) (fp : List Addr), GG (X.blk s H scope (compEnvC scope cs C X.env) fp) tg ts g)
    (ht : ∀ (s : Shared) (H : Hp) (C : Addr) (cs : List (Str × Addr)) (fp : List Addr), GT (X.blk s H scope (compEnvC scope cs C X.env) fp) cl W0 c t)
    (he : ∀ (s : Shared) (H : Hp) (C : Addr) (cs : List (Str × Addr)) (fp : List Addr), GE (X.blk s H scope (compEnvC scope cs C X.env) fp) cl W0 elt f)
    (hsw : swapsWith (.ListComp elt [⟨tg, iter, [c], 0⟩] scope pos) (some (.Name y py)) spos.line X.env = pure true) (hy : X.N[i]? = some y := by rfl) (hyl : X.env.scope.names.lookup y = some .local := by rfl) (hs : ∀ x, foldedSetIterable iter X.env x = pure x := by intro _; rfl) :
    GS X cl W fr pu [i] (.Assign [.Name y py] (.ListComp elt [⟨tg, iter, [c], 0⟩] scope pos) spos) (sSet i (mL (mLc (own.map (·.2)) fa g t f))) := by
  obtain ⟨wi, p0, d0⟩ := hi
  exact ⟨_, ps_setLc (g := tcG X.K ts g) (tt := tcT X.K cl W0 t) (te := tcE X.K cl W0 f) hc hN hy hyl hsw p0 ok (fun s H C cs fp => (hg s H C cs fp).can) (fun s H C cs fp => pts_one (ht s H C cs fp).can) (fun s H C cs fp => (he s H C cs fp).can) hs, den_asgF i (den_lc hsub d0 den_tcG den_tcT den_tcE)⟩
end

/-! ### a loop that reads lists which are written only behind it -/
/-- all slots as plain data -/
def frzA : Rho → Rho := fun ρ => ρ.map fun o => match o with
  | some s => (match thaw s with
    | some d => some (.imm d)
    | none => some s)
  | none => none
theorem thaw_some (s : Sl) : ∃ d, thaw s = some d := by cases s <;> exact ⟨_, rfl⟩
theorem frzA_get {ρ : Rho} {i : Nat} {s : Sl} (e : ρ[i]? = some (some s)) : ∃ d, thaw s = some d ∧ (frzA ρ)[i]? = some (some (.imm d)) := by
  obtain ⟨d, hd⟩ := thaw_some s
  refine ⟨d, hd, ?_⟩
  unfold frzA
  rw [List.getElem?_map, e]
  simp only [Option.map_some]
  rw [hd]
theorem frzA_inv {ρ : Rho} {i : Nat} {t : Sl} (e : (frzA ρ)[i]? = some (some t)) : ∃ s d, ρ[i]? = some (some s) ∧ thaw s = some d ∧ t = .imm d := by
  unfold frzA at e
  rw [List.getElem?_map] at e
  cases q : ρ[i]? with
  | none => rw [q] at e; cases e
  | some o =>
    rw [q] at e
    cases o with
    | none => cases e
    | some s =>
      obtain ⟨d, hd⟩ := thaw_some s
      simp only [Option.map_some] at e
      rw [hd] at e
      injection e with e
      injection e with e
      exact ⟨s, d, rfl, hd, e.symm⟩
section
variable {K : PySem.W.Frag} {Hb : Hp} {L0 : Own} {α : Al} {ρ : Rho} {σ : L2.St} {H H' : Hp}
theorem Lof.nil {a : Addr} : Lof L0 (fun _ => []) a ↔ L0 a := ⟨fun z => z.elim id fun ⟨_, z⟩ => (nomatch z), .inl⟩
theorem Env.frzA (E : Env K Hb L0 α ρ σ H) : Env K H L0 (fun _ => []) (frzA ρ) σ H := by
  refine ⟨Same.refl H, fun a z => E.dom a (.inl (Lof.nil.mp z)), fun i a z => (nomatch z), fun i j a z => (nomatch z), ?_, fun i t e => ?_, fun i _ => rfl⟩
  · unfold VW.frzA
    rw [List.length_map]
    exact E.len
  · obtain ⟨s, d, e1, e2, rfl⟩ := frzA_inv e
    obtain ⟨v, h1, h2⟩ := E.sl i s e1
    exact ⟨v, h1, rfl, h2.thaw (fun a z => .inl (Lof.nil.mp z)) (fun a m z => (E.new i a m).2 (Lof.nil.mp z)) e2⟩
/-- .. and back, what was written wiped -/
theorem Env.back {α' : Al} {ρ' : Rho} {σ' : L2.St} {ts : List Nat} (E : Env K Hb L0 α ρ σ H) (E' : Env K H L0 α' ρ' σ' H') (k : Kps ts (Lof L0 (fun _ => [])) σ H (Lof L0 α') σ' H') (h : ts.all (plainAt ρ) = true) (hl : σ'.length = σ.length) : Env K Hb L0 α (wipeR ρ ts) σ' H' ∧ Same H H' := by
  have sm : Same H H' := E'.same
  refine ⟨⟨E.same.trans sm, fun a z => (E.mono sm).dom a z, E.new, E.disj, by rw [wipeR_length, hl]; exact E.len, fun i s e => ?_, fun i e => ?_⟩, sm⟩
  · rw [wipeR_get] at e
    by_cases hm : i ∈ ts
    · rw [if_pos hm] at e
      split at e <;> cases e
    · rw [if_neg hm] at e
      obtain ⟨v, h1, h2⟩ := E.sl i s e
      exact ⟨v, by rw [k.2 i hm]; exact h1, h2.same sm⟩
  · by_cases hm : i ∈ ts
    · exact E.plain (List.all_eq_true.mp h i hm)
    · refine E.no i fun s q => e s ?_
      rw [wipeR_get, if_neg hm]
      exact q
end
def atomD : PyData → Bool
  | .none => true
  | .bool _ => true
  | .int _ => true
  | .str _ => true
  | _ => false
def sHold (ts : List Nat) (f : Rho → M Out) : Rho → M Out := fun ρ => if ts.all (plainAt ρ) = true then bnd (f (frzA ρ)) fun o => (match o with
    | .nx ρ' => if ρ'.length = ρ.length then ret (.nx (wipeR ρ ts)) else none
    | .rt d => if atomD d = true then ret (.rt d) else none
    | _ => none) else none
theorem Is.atm {K : PySem.W.Frag} {L L' : Own} {H H' : Hp} {v : V} {d : PyData} (h : Is K L H v d) (e : atomD d = true) : Is K L' H' v d := by
  cases h with
  | non => exact .non
  | bl b => exact .bl b
  | int i => exact .int i
  | str x => exact .str x
  | lst => cases e
  | tup => cases e
  | dct => cases e
  | emp => cases e
  | tdc => cases e
  | scr => cases e
theorem gs_hold {X : Cx} {cl : Ex → Addr} {W : WX} {t1 : List Nat} {st : Stmt} {s : Rho → M Out} (h : GS X cl W .pl false t1 st s) : GS X cl W .pl false t1 st (sHold t1 s) := by
  obtain ⟨tr, p, d⟩ := h
  refine ⟨tr, p, fun {Hb L0 α ρ σ H} E l0 hne D hq => ?_⟩
  obtain ⟨c1, c2⟩ := if_inv hne
  have n1 := hne
  have q0 : sHold t1 s ρ = _ := c2
  rw [show sHold t1 s ρ = _ from c2] at n1
  refine d E.frzA (fun a z => E.dom a (.inl z)) (bnd_ne n1) D ⟨fun ρ' α' σ' H' e1 E1 k1 => ?_, fun ρ' α' σ' H' e1 E1 k1 => ?_, fun ρ' α' σ' H' e1 E1 k1 => ?_, fun z v H' e1 r1 => ?_, fun n σ' H' e1 s1 _ => hq.er n σ' H' (q0.trans (bnd_raise e1)) (E.same.trans s1) fun z => nomatch z⟩
  · have n2 := bnd_at n1 e1
    obtain ⟨c3, c4⟩ := if_inv n2
    have hl : σ'.length = σ.length := by rw [← E1.len, c3, E.len]
    obtain ⟨E2, sm⟩ := E.back E1 k1 c1 hl
    exact hq.nx _ α σ' H' (q0.trans ((bnd_eq e1).trans c4)) E2 ⟨Kp.of_same sm, k1.2⟩
  · exact absurd rfl (bnd_at n1 e1)
  · exact absurd rfl (bnd_at n1 e1)
  · have n2 := bnd_at n1 e1
    obtain ⟨c3, c4⟩ := if_inv n2
    exact hq.rt z v H' (q0.trans ((bnd_eq e1).trans c4)) ⟨E.same.trans r1.1, Is.atm r1.2 c3⟩

/-! ### defs -/
/-- a def's promise: from what the arguments are, what comes of it -/
def spD (K : PySem.W.Frag) (cl : Ex → Addr) (n : Nat) (F : List PyData → M PyData) : Sp := fun vs H Q E => vs.length = n ∧ ∃ (L : Own) (ds : List PyData), (∀ a, L a → H a ≠ none) ∧ IsAll K L H vs ds ∧ F ds ≠ none ∧
  (∀ d v H', F ds = some (.ok d) → Same H H' → Is K L H' v d → Q v H') ∧ (∀ x H', F ds = some (.er x) → Same H H' → E (.ref (cl x)) none H')
def spF (K : PySem.W.Frag) (cl : Ex → Addr) (n : Nat) (F : List PyData → M (List PyData)) : Sp := fun vs H Q E => vs.length = n ∧ ∃ (L : Own) (ds : List PyData), (∀ a, L a → H a ≠ none) ∧ IsAll K L H vs ds ∧ F ds ≠ none ∧
  (∀ es p xs H', F ds = some (.ok es) → H p = none → Same H H' → H' p = some (.lst xs) → IsAll K (fun a => L a ∨ a = p) H' xs es → Q (.ref p) H') ∧ (∀ x H', F ds = some (.er x) → Same H H' → E (.ref (cl x)) none H')
structure FD (P : Program) (w : World) (K : PySem.W.Frag) (mg : Str → Option Value) (base : Heap) (cl : Ex → Addr) (x : Str) (k n : Nat) (F : List PyData → M PyData) : Prop where
  ex : ∃ f fd ps, mg x = some (.ref f) ∧ PySem.W.keepIn K (.ref f) = true ∧ Binds K fd ps [] ∧ FnOk P w K mg base (L2.CX P w) k f fd ps (spD K cl n F)
structure FF (P : Program) (w : World) (K : PySem.W.Frag) (mg : Str → Option Value) (base : Heap) (cl : Ex → Addr) (x : Str) (k n : Nat) (F : List PyData → M (List PyData)) : Prop where
  ex : ∃ f fd ps, mg x = some (.ref f) ∧ PySem.W.keepIn K (.ref f) = true ∧ Binds K fd ps [] ∧ FnOk P w K mg base (L2.CX P w) k f fd ps (spF K cl n F)
def startR (n : Nat) (ds : List PyData) : Rho := ds.map (fun d => some (.imm d)) ++ List.replicate (n - ds.length) none
def endD (o : Out) : M PyData := match o with
  | .nx _ => ret .none
  | .rt d => ret d
  | _ => none
def endF (o : Out) : M (List PyData) := match o with
  | .rt (.list ds) => ret ds
  | _ => none
def fnD (n : Nat) (b : Rho → M Out) (ds : List PyData) : M PyData := bnd (b (startR n ds)) endD
def fnF (n : Nat) (b : Rho → M Out) (ds : List PyData) : M (List PyData) := bnd (b (startR n ds)) endF
theorem env_start {K : PySem.W.Frag} {L : Own} {H : Hp} {N : List Str} {vs : List V} {ds : List PyData} (hL : ∀ a, L a → H a ≠ none) (h : IsAll K L H vs ds) : Env K H L (fun _ => []) (startR N.length ds) (L2.start N vs) H := by
  have lof : ∀ a, Lof L (fun _ => []) a → L a := fun a z => by
    rcases z with z | ⟨i, z⟩
    · exact z
    · cases z
  refine ⟨Same.refl H, fun a z => hL a (lof a z), fun i a z => (nomatch z), fun i j a z => (nomatch z), ?_, fun i s e => ?_, fun i _ => rfl⟩
  · unfold startR L2.start
    rw [List.length_append, List.length_append, List.length_map, List.length_map, List.length_replicate, List.length_replicate, h.len]
  · unfold startR at e
    by_cases hi : i < ds.length
    · rw [List.getElem?_append_left (by rw [List.length_map]; exact hi), List.getElem?_map, List.getElem?_eq_getElem hi] at e
      have e' : (some (some (Sl.imm ds[i])) : Option (Option Sl)) = some (some s) := e
      injection e' with e'
      injection e' with e'
      subst e'
      obtain ⟨v, h1, h2⟩ := h.get (List.getElem?_eq_getElem hi)
      refine ⟨v, ?_, rfl, h2.anti lof⟩
      unfold L2.start
      rw [List.getElem?_append_left (by rw [List.length_map, h.len]; exact hi), List.getElem?_map, h1]
      rfl
    · rw [List.getElem?_append_right (by rw [List.length_map]; omega), List.getElem?_replicate] at e
      split at e <;> cases e
section
variable {P : Program} {w : World} {K : PySem.W.Frag} {mg : Str → Option Value} {base : Heap} {cl : Ex → Addr}
abbrev WF (E : XK) : WX := fun c d _ H => E c d H
theorem Fun.okD {x qual : Str} {st : Stmt} {f : Addr} {fd : FuncData} {N ps : List Str} {k : Nat} {b : Rho → M Out} (F : Fun K x qual st f fd) (S : FnScope N ps (defScope st))
    (hb : ∀ (cdv : Value) (A : Around) (outer : List PySem.Env) (s : Shared) (H : Hp) (E : XK), Room k (A.deeper (envOfC qual (defScope st) s.heap.objs.size f cdv)) → ∃ ts, GSs (cxOf (L2.CX P w) P w K mg base N qual (defScope st) f cdv A outer s H E) cl (WF E) .pl false ts (defBody st) b) :
    FnOk P w K mg base (L2.CX P w) (k + 1) f fd ps (spD K cl ps.length (fnD N.length b)) := by
  refine F.okX S (fun vs H Q E h => h.1) fun cdv A outer s H vs Q E hr h => ?_
  obtain ⟨ts, ⟨t, p, d⟩⟩ := hb cdv A outer s H E hr
  refine ⟨t, p, ?_⟩
  obtain ⟨hl, L, ds, hL, hv, hne, h1, h2⟩ := h
  have E0 := env_start (N := N) hL hv
  have lof : ∀ a, Lof L (fun _ => []) a → L a := fun a z => by
    rcases z with z | ⟨i, z⟩
    · exact z
    · cases z
  refine d E0 hL (bnd_ne hne) _ ⟨fun ρ' α' σ' H' e1 E1 k1 => h1 .none .non H' (bnd_eq e1) E1.same .non, fun ρ' α' σ' H' e1 E1 k1 => ?_, fun ρ' α' σ' H' e1 E1 k1 => ?_, fun d v H' e1 r => h1 d v H' (bnd_eq e1) r.1 r.2, fun n σ' H' e1 s1 _ => h2 n H' (bnd_raise e1) s1⟩
  · exact absurd (show fnD N.length b ds = none from bnd_eq e1) hne
  · exact absurd (show fnD N.length b ds = none from bnd_eq e1) hne
theorem Fun.okF {x qual : Str} {st : Stmt} {f : Addr} {fd : FuncData} {N ps : List Str} {k : Nat} {b : Rho → M Out} (F : Fun K x qual st f fd) (S : FnScope N ps (defScope st))
    (hb : ∀ (cdv : Value) (A : Around) (outer : List PySem.Env) (s : Shared) (H : Hp) (E : XK), Room k (A.deeper (envOfC qual (defScope st) s.heap.objs.size f cdv)) → ∃ ts, GSs (cxOf (L2.CX P w) P w K mg base N qual (defScope st) f cdv A outer s H E) cl (WF E) .fr false ts (defBody st) b) :
    FnOk P w K mg base (L2.CX P w) (k + 1) f fd ps (spF K cl ps.length (fnF N.length b)) := by
  refine F.okX S (fun vs H Q E h => h.1) fun cdv A outer s H vs Q E hr h => ?_
  obtain ⟨ts, ⟨t, p, d⟩⟩ := hb cdv A outer s H E hr
  refine ⟨t, p, ?_⟩
  obtain ⟨hl, L, ds, hL, hv, hne, h1, h2⟩ := h
  have E0 := env_start (N := N) hL hv
  refine d E0 hL (bnd_ne hne) _ ⟨fun ρ' α' σ' H' e1 E1 k1 => ?_, fun ρ' α' σ' H' e1 E1 k1 => ?_, fun ρ' α' σ' H' e1 E1 k1 => ?_, fun d v H' e1 r => ?_, fun n σ' H' e1 s1 _ => h2 n H' (bnd_raise e1) s1⟩
  · exact absurd (show fnF N.length b ds = none from bnd_eq e1) hne
  · exact absurd (show fnF N.length b ds = none from bnd_eq e1) hne
  · exact absurd (show fnF N.length b ds = none from bnd_eq e1) hne
  · obtain ⟨s1, p, xs, es, rfl, rfl, n1, n2, hx, hi⟩ := r
    exact h1 es p xs H' (bnd_eq e1) n1 s1 hx hi
variable {X : Cx} {W : WX} {x : Str} {k n : Nat} {p pos : Pos} {e : Expr} {es : List Expr} {fa : Rho → M (List PyData)}
theorem GA.len {es : List Expr} {fa : Rho → M (List PyData)} (m : Nat) (h : GA X cl W es fa) : GA X cl W es fa := h
theorem ge_call {F : List PyData → M PyData} (h : FD X.prog X.w X.K X.mg X.base cl x k n F) (hr : Room k X.A) (tk : Takes X W) (ha : GA X cl W (e :: es) fa) (hn : ∀ ρ ds, fa ρ = some (.ok ds) → ds.length = n) (hg : Gl X x := by rfl) (hdb : (x == ("__debug__" : Str)) = false := by decide)
    (he : starEach (e :: es) X.env = (false, eval e X.env) :: starEach es X.env := by rfl) (hpl : (backTo pos (starEach es X.env)).any (·.1) = false := by rfl) : GE X cl W (.Call (.Name x p) (e :: es) [] pos) (mCall F fa) := by
  obtain ⟨f, fd, ps, h1, h2, h3, h4⟩ := h
  obtain ⟨ta, p1, d1⟩ := ha
  refine ⟨_, pe_callS h4 hr hg h1 h2 h3 (fun σ => passAt tk σ) p1 hdb he hpl, fun {Hb L0 α ρ σ H} E hne Q hq => d1 E (bnd_ne hne) _ ⟨fun ds vs H1 e1 s1 i1 => ?_, fun n H1 e1 s1 => hq.2 n H1 (bnd_raise e1) s1⟩⟩
  have n1 := bnd_at hne e1
  have q1 : mCall F fa ρ = F ds := bnd_eq e1
  exact ⟨by rw [i1.len]; exact hn ρ ds e1, _, ds, (E.mono s1).dom, i1, n1, fun d v H2 e2 s2 i2 => hq.1 d v H2 (q1.trans e2) (s1.trans s2) i2, fun n H2 e2 s2 => hq.2 n H2 (q1.trans e2) (s1.trans s2)⟩
theorem gf_call {F : List PyData → M (List PyData)} (h : FF X.prog X.w X.K X.mg X.base cl x k n F) (hr : Room k X.A) (tk : Takes X W) (ha : GA X cl W (e :: es) fa) (hn : ∀ ρ ds, fa ρ = some (.ok ds) → ds.length = n) (hg : Gl X x := by rfl) (hdb : (x == ("__debug__" : Str)) = false := by decide)
    (he : starEach (e :: es) X.env = (false, eval e X.env) :: starEach es X.env := by rfl) (hpl : (backTo pos (starEach es X.env)).any (·.1) = false := by rfl) : GF X cl W (.Call (.Name x p) (e :: es) [] pos) (mCallF F fa) := by
  obtain ⟨f, fd, ps, h1, h2, h3, h4⟩ := h
  obtain ⟨ta, p1, d1⟩ := ha
  refine ⟨_, pe_callS h4 hr hg h1 h2 h3 (fun σ => passAt tk σ) p1 hdb he hpl, fun {Hb L0 α ρ σ H} E hne Q hq => d1 E (bnd_ne hne) _ ⟨fun ds vs H1 e1 s1 i1 => ?_, fun n H1 e1 s1 => hq.2 n H1 (bnd_raise e1) s1⟩⟩
  have n1 := bnd_at hne e1
  have q1 : mCallF F fa ρ = F ds := bnd_eq e1
  exact ⟨by rw [i1.len]; exact hn ρ ds e1, _, ds, (E.mono s1).dom, i1, n1, fun es p xs H2 e2 hp s2 hx i2 => hq.1 es p xs H2 (q1.trans e2) (s1.free hp) (s1.trans s2) hx i2, fun n H2 e2 s2 => hq.2 n H2 (q1.trans e2) (s1.trans s2)⟩
end
theorem nil_len : ∀ ρ ds, mNil ρ = some (.ok ds) → ds.length = 0 := fun ρ ds h => by
  have e := ret_ok h
  subst e
  rfl
theorem cons_len {f : Rho → M PyData} {g : Rho → M (List PyData)} {n : Nat} (h : ∀ ρ ds, g ρ = some (.ok ds) → ds.length = n) : ∀ ρ ds, mCons f g ρ = some (.ok ds) → ds.length = n + 1 := fun ρ ds e => by
  obtain ⟨d, _, e2⟩ := bnd_ok_inv e
  obtain ⟨es, e3, e4⟩ := bnd_ok_inv e2
  have e5 := ret_ok e4
  subst e5
  rw [List.length_cons, h ρ es e3]
end VW
/-! sorted of a list of tuples of ints and texts, all of one shape, the first an int. -/
namespace VW
open PySem PySem.Spec PyProof.Rows L2

/-! ### the order -/
def lexV : List V → List V → Bool
  | .int i :: r, .int j :: q => if i = j then lexV r q else decide (i < j)
  | .str x :: r, .str y :: q => if x = y then lexV r q else decide (x.cps.toList < y.cps.toList)
  | _, _ => false
def lexD : List PyData → List PyData → Bool
  | .int i :: r, .int j :: q => if i = j then lexD r q else decide (i < j)
  | .str x :: r, .str y :: q => if x = y then lexD r q else decide (x.cps.toList < y.cps.toList)
  | _, _ => false
/-- the kinds of the items: true an int, false a text -/
def shpV : List V → Option (List Bool)
  | [] => some []
  | .int _ :: r => (shpV r).map (true :: ·)
  | .str _ :: r => (shpV r).map (false :: ·)
  | _ => none
def shpD : List PyData → Option (List Bool)
  | [] => some []
  | .int _ :: r => (shpD r).map (true :: ·)
  | .str _ :: r => (shpD r).map (false :: ·)
  | _ => none
theorem shp_rel {K : PySem.W.Frag} {L : Own} {H : Hp} : ∀ {ds : List PyData} {us : List V} {sh : List Bool}, IsAll K L H us ds → shpD ds = some sh → shpV us = some sh
  | [], _, _, h, e => by cases h; exact e
  | .int i :: ds, _, sh, h, e => by
    cases h with
    | cons h1 h2 =>
      cases h1
      cases q : shpD ds with
      | none => simp [shpD, q] at e
      | some r =>
        simp only [shpD, q, Option.map_some] at e
        simp only [shpV, shp_rel h2 q, Option.map_some]
        exact e
  | .str i :: ds, _, sh, h, e => by
    cases h with
    | cons h1 h2 =>
      cases h1
      cases q : shpD ds with
      | none => simp [shpD, q] at e
      | some r =>
        simp only [shpD, q, Option.map_some] at e
        simp only [shpV, shp_rel h2 q, Option.map_some]
        exact e
  | .none :: _, _, _, _, e => by simp [shpD] at e
  | .bool _ :: _, _, _, _, e => by simp [shpD] at e
  | .list _ :: _, _, _, _, e => by simp [shpD] at e
  | .tuple _ :: _, _, _, _, e => by simp [shpD] at e
  | .dict _ :: _, _, _, _, e => by simp [shpD] at e
theorem lex_rel {K : PySem.W.Frag} {L : Own} {H : Hp} : ∀ {ds es : List PyData} {us ws : List V} {sh : List Bool}, IsAll K L H us ds → IsAll K L H ws es → shpD ds = some sh → shpD es = some sh → lexV us ws = lexD ds es
  | [], [], _, _, _, h, h', _, _ => by cases h; cases h'; rfl
  | [], .int j :: es, _, _, sh, _, _, e, e' => by
    have z : sh = [] := (Option.some.inj (show some [] = some sh from e)).symm
    subst z
    cases q' : shpD es <;> simp [shpD, q'] at e'
  | [], .str j :: es, _, _, sh, _, _, e, e' => by
    have z : sh = [] := (Option.some.inj (show some [] = some sh from e)).symm
    subst z
    cases q' : shpD es <;> simp [shpD, q'] at e'
  | .int i :: ds, [], _, _, sh, _, _, e, e' => by
    have z : sh = [] := (Option.some.inj (show some [] = some sh from e')).symm
    subst z
    cases q' : shpD ds <;> simp [shpD, q'] at e
  | .str i :: ds, [], _, _, sh, _, _, e, e' => by
    have z : sh = [] := (Option.some.inj (show some [] = some sh from e')).symm
    subst z
    cases q' : shpD ds <;> simp [shpD, q'] at e
  | .int i :: ds, .int j :: es, _, _, sh, h, h', e, e' => by
    cases h with
    | cons h1 h2 =>
      cases h' with
      | cons h3 h4 =>
        cases h1
        cases h3
        cases q : shpD ds with
        | none => simp [shpD, q] at e
        | some r =>
          cases q' : shpD es with
          | none => simp [shpD, q'] at e'
          | some r' =>
            simp only [shpD, q, q', Option.map_some, Option.some.injEq] at e e'
            have er : r = r' := by
              rw [← e] at e'
              injection e' with _ z
              exact z.symm
            subst er
            simp only [lexV, lexD, lex_rel h2 h4 q q']
  | .str i :: ds, .str j :: es, _, _, sh, h, h', e, e' => by
    cases h with
    | cons h1 h2 =>
      cases h' with
      | cons h3 h4 =>
        cases h1
        cases h3
        cases q : shpD ds with
        | none => simp [shpD, q] at e
        | some r =>
          cases q' : shpD es with
          | none => simp [shpD, q'] at e'
          | some r' =>
            simp only [shpD, q, q', Option.map_some, Option.some.injEq] at e e'
            have er : r = r' := by
              rw [← e] at e'
              injection e' with _ z
              exact z.symm
            subst er
            simp only [lexV, lexD, lex_rel h2 h4 q q']
  | .int i :: ds, .str j :: es, _, _, sh, _, _, e, e' => by
    cases q : shpD ds <;> cases q' : shpD es <;> simp [shpD, q, q'] at e e'
    rw [← e] at e'
    simp at e'
  | .str i :: ds, .int j :: es, _, _, sh, _, _, e, e' => by
    cases q : shpD ds <;> cases q' : shpD es <;> simp [shpD, q, q'] at e e'
    rw [← e] at e'
    simp at e'
  | .none :: _, _, _, _, _, _, _, e, _ => by simp [shpD] at e
  | .bool _ :: _, _, _, _, _, _, _, e, _ => by simp [shpD] at e
  | .list _ :: _, _, _, _, _, _, _, e, _ => by simp [shpD] at e
  | .tuple _ :: _, _, _, _, _, _, _, e, _ => by simp [shpD] at e
  | .dict _ :: _, _, _, _, _, _, _, e, _ => by simp [shpD] at e
  | _, .none :: _, _, _, _, _, _, _, e => by simp [shpD] at e
  | _, .bool _ :: _, _, _, _, _, _, _, e => by simp [shpD] at e
  | _, .list _ :: _, _, _, _, _, _, _, e => by simp [shpD] at e
  | _, .tuple _ :: _, _, _, _, _, _, _, e => by simp [shpD] at e
  | _, .dict _ :: _, _, _, _, _, _, _, e => by simp [shpD] at e
theorem slt_irrefl (x : List Nat) : ¬ x < x := List.lt_irrefl x
theorem slt_asymm {x y : List Nat} (h : x < y) : ¬ y < x := List.lt_asymm h
theorem slt_trans {x y z : List Nat} (h : x < y) (h' : y < z) : x < z := List.lt_trans h h'
theorem slt_tri (x y : Str) (h : ¬ x.cps.toList < y.cps.toList) (h' : ¬ y.cps.toList < x.cps.toList) : x = y := by
  have e : x.cps.toList = y.cps.toList := List.le_antisymm h' h
  obtain ⟨⟨a⟩⟩ := x
  obtain ⟨⟨b⟩⟩ := y
  have e' : a = b := e
  rw [e']
theorem lexV_asym : ∀ a b : List V, lexV a b = true → lexV b a = false
  | .int i :: r, .int j :: q, h => by
    unfold lexV at h ⊢
    by_cases e : i = j
    · subst e
      rw [if_pos rfl] at h ⊢
      exact lexV_asym r q h
    · rw [if_neg e] at h
      rw [if_neg (Ne.symm e)]
      have := of_decide_eq_true h
      exact decide_eq_false (by omega)
  | .str i :: r, .str j :: q, h => by
    unfold lexV at h ⊢
    by_cases e : i = j
    · subst e
      rw [if_pos rfl] at h ⊢
      exact lexV_asym r q h
    · rw [if_neg e] at h
      rw [if_neg (Ne.symm e)]
      exact decide_eq_false (slt_asymm (of_decide_eq_true h))
  | [], [], h => by cases h
  | [], b :: _, h => by cases b <;> rfl
  | a :: _, [], h => by cases a <;> rfl
  | .non :: _, b :: _, _ => by cases b <;> rfl
  | .bl _ :: _, b :: _, _ => by cases b <;> rfl
  | .byt _ :: _, b :: _, _ => by cases b <;> rfl
  | .flt _ :: _, b :: _, _ => by cases b <;> rfl
  | .ref _ :: _, b :: _, _ => by cases b <;> rfl
  | .ty _ :: _, b :: _, _ => by cases b <;> rfl
  | .int _ :: _, .non :: _, _ => rfl
  | .int _ :: _, .bl _ :: _, _ => rfl
  | .int _ :: _, .str _ :: _, _ => rfl
  | .int _ :: _, .byt _ :: _, _ => rfl
  | .int _ :: _, .flt _ :: _, _ => rfl
  | .int _ :: _, .ref _ :: _, _ => rfl
  | .int _ :: _, .ty _ :: _, _ => rfl
  | .str _ :: _, .non :: _, _ => rfl
  | .str _ :: _, .bl _ :: _, _ => rfl
  | .str _ :: _, .int _ :: _, _ => rfl
  | .str _ :: _, .byt _ :: _, _ => rfl
  | .str _ :: _, .flt _ :: _, _ => rfl
  | .str _ :: _, .ref _ :: _, _ => rfl
  | .str _ :: _, .ty _ :: _, _ => rfl
/-- among lists of one shape -/
theorem lexV_tr : ∀ {sh : List Bool} {a b c : List V}, shpV a = some sh → shpV b = some sh → shpV c = some sh → lexV b a = false → lexV c b = false → lexV c a = false
  | [], a, b, c, ha, hb, hc, _, _ => by
    have n : ∀ a : List V, shpV a = some [] → a = [] := fun a h => by
      cases a with
      | nil => rfl
      | cons x r => cases x <;> simp [shpV] at h <;> (try (cases q : shpV r <;> simp [q] at h))
    rw [n a ha, n c hc]
    rfl
  | true :: sh, a, b, c, ha, hb, hc, h1, h2 => by
    have n : ∀ a : List V, shpV a = some (true :: sh) → ∃ i r, a = .int i :: r ∧ shpV r = some sh := fun a h => by
      cases a with
      | nil => simp [shpV] at h
      | cons x r =>
        cases x with
        | int i =>
          refine ⟨i, r, rfl, ?_⟩
          cases q : shpV r with
          | none => simp [shpV, q] at h
          | some z => simp [shpV, q] at h; rw [h]
        | str i => cases q : shpV r <;> simp [shpV, q] at h
        | _ => simp [shpV] at h
    obtain ⟨i, ra, rfl, ga⟩ := n a ha
    obtain ⟨j, rb, rfl, gb⟩ := n b hb
    obtain ⟨k, rc, rfl, gc⟩ := n c hc
    unfold lexV at h1 h2 ⊢
    by_cases e1 : j = i
    · subst e1
      rw [if_pos rfl] at h1
      by_cases e2 : k = j
      · subst e2
        rw [if_pos rfl] at h2 ⊢
        exact lexV_tr ga gb gc h1 h2
      · rw [if_neg e2] at h2 ⊢
        exact h2
    · rw [if_neg e1] at h1
      have q1 := of_decide_eq_false h1
      by_cases e2 : k = j
      · subst e2
        rw [if_neg e1]
        exact h1
      · rw [if_neg e2] at h2
        have q2 := of_decide_eq_false h2
        have ne : ¬ k = i := by omega
        rw [if_neg ne]
        exact decide_eq_false (by omega)
  | false :: sh, a, b, c, ha, hb, hc, h1, h2 => by
    have n : ∀ a : List V, shpV a = some (false :: sh) → ∃ i r, a = .str i :: r ∧ shpV r = some sh := fun a h => by
      cases a with
      | nil => simp [shpV] at h
      | cons x r =>
        cases x with
        | str i =>
          refine ⟨i, r, rfl, ?_⟩
          cases q : shpV r with
          | none => simp [shpV, q] at h
          | some z => simp [shpV, q] at h; rw [h]
        | int i => cases q : shpV r <;> simp [shpV, q] at h
        | _ => simp [shpV] at h
    obtain ⟨i, ra, rfl, ga⟩ := n a ha
    obtain ⟨j, rb, rfl, gb⟩ := n b hb
    obtain ⟨k, rc, rfl, gc⟩ := n c hc
    unfold lexV at h1 h2 ⊢
    by_cases e1 : j = i
    · subst e1
      rw [if_pos rfl] at h1
      by_cases e2 : k = j
      · subst e2
        rw [if_pos rfl] at h2 ⊢
        exact lexV_tr ga gb gc h1 h2
      · rw [if_neg e2] at h2 ⊢
        exact h2
    · rw [if_neg e1] at h1
      have q1 := of_decide_eq_false h1
      by_cases e2 : k = j
      · subst e2
        rw [if_neg e1]
        exact h1
      · rw [if_neg e2] at h2
        have q2 := of_decide_eq_false h2
        have ij : i.cps.toList < j.cps.toList := Decidable.byContradiction fun z => e1 (slt_tri j i q1 z)
        have jk : j.cps.toList < k.cps.toList := Decidable.byContradiction fun z => e2 (slt_tri k j q2 z)
        have ik := slt_trans ij jk
        have ne : ¬ k = i := fun z => by subst z; exact slt_irrefl _ ik
        rw [if_neg ne]
        exact decide_eq_false (slt_asymm ik)
/-! ### the machine's comparison of such keys -/
section
variable {prog : Program} {w : World} {A : Around} {s : Shared}
theorem kat_items : ∀ {sh : List Bool} {us ws : List V} {is js : List Value} (n : Nat), shpV us = some sh → shpV ws = some sh → Vals us is → Vals ws js → PySem.W.KatLex prog w A true false (fun r s' => s' = s ∧ r = lexV us ws) (is.zip js) n s
  | sh, [], ws, is, js, n, h1, h2, r1, r2 => by
    cases r1
    have e : lexV [] ws = false := by cases ws with
      | nil => rfl
      | cons a r => cases a <;> rfl
    exact PySem.W.kat_nil ⟨rfl, e.symm⟩
  | sh, .int i :: us, ws, is, js, n, h1, h2, r1, r2 => by
    cases q : shpV us with
    | none => simp [shpV, q] at h1
    | some z =>
      simp only [shpV, q, Option.map_some, Option.some.injEq] at h1
      subst h1
      cases ws with
      | nil => simp [shpV] at h2
      | cons y ws =>
        cases y with
        | int j =>
          have q' : shpV ws = some z := by
            cases q' : shpV ws with
            | none => simp [shpV, q'] at h2
            | some z' => simp [shpV, q'] at h2; rw [h2]
          cases r1 with
          | cons a1 a2 =>
            cases r2 with
            | cons b1 b2 =>
              obtain ⟨t, rfl⟩ := a1
              obtain ⟨t', rfl⟩ := b1
              refine PySem.W.kat_cons (SeqAt.EqAt.int_int i t j t' prog w _ _ ?_)
              refine PySem.W.kat_go (fun e => ?_) (fun e => ?_)
              · have ej : i = j := by simpa using e
                subst ej
                have el : lexV (.int i :: us) (.int i :: ws) = lexV us ws := by
                  show (if i = i then lexV us ws else decide (i < i)) = _
                  rw [if_pos rfl]
                rw [el]
                exact PySem.W.kat_yes (kat_items (n + 1) q q' a2 b2)
              · have ej : ¬ i = j := by simpa using e
                have el : lexV (.int i :: us) (.int j :: ws) = decide (i < j) := if_neg ej
                rw [el]
                exact PySem.W.kat_no (PyProof.Rows.oneLt_any_int ⟨rfl, rfl⟩)
        | str j => cases q' : shpV ws <;> simp [shpV, q'] at h2
        | _ => simp [shpV] at h2
  | sh, .str i :: us, ws, is, js, n, h1, h2, r1, r2 => by
    cases q : shpV us with
    | none => simp [shpV, q] at h1
    | some z =>
      simp only [shpV, q, Option.map_some, Option.some.injEq] at h1
      subst h1
      cases ws with
      | nil => simp [shpV] at h2
      | cons y ws =>
        cases y with
        | str j =>
          have q' : shpV ws = some z := by
            cases q' : shpV ws with
            | none => simp [shpV, q'] at h2
            | some z' => simp [shpV, q'] at h2; rw [h2]
          cases r1 with
          | cons a1 a2 =>
            cases r2 with
            | cons b1 b2 =>
              obtain ⟨t, rfl⟩ := a1
              obtain ⟨t', rfl⟩ := b1
              refine PySem.W.kat_cons (SeqAt.EqAt.str_str i t j t' prog w _ _ ?_)
              refine PySem.W.kat_go (fun e => ?_) (fun e => ?_)
              · have ej : i = j := by simpa using e
                subst ej
                have el : lexV (.str i :: us) (.str i :: ws) = lexV us ws := by
                  show (if i = i then lexV us ws else _) = _
                  rw [if_pos rfl]
                rw [el]
                exact PySem.W.kat_yes (kat_items (n + 1) q q' a2 b2)
              · have ej : ¬ i = j := by simpa using e
                have el : lexV (.str i :: us) (.str j :: ws) = decide (i.cps.toList < j.cps.toList) := if_neg ej
                rw [el]
                exact PySem.W.kat_no (PyProof.Rows.oneLt_any_str ⟨rfl, rfl⟩)
        | int j => cases q' : shpV ws <;> simp [shpV, q'] at h2
        | _ => simp [shpV] at h2
  | _, .non :: _, _, _, _, _, h, _, _, _ => by simp [shpV] at h
  | _, .bl _ :: _, _, _, _, _, h, _, _, _ => by simp [shpV] at h
  | _, .byt _ :: _, _, _, _, _, h, _, _, _ => by simp [shpV] at h
  | _, .flt _ :: _, _, _, _, _, h, _, _, _ => by simp [shpV] at h
  | _, .ref _ :: _, _, _, _, _, h, _, _, _ => by simp [shpV] at h
  | _, .ty _ :: _, _, _, _, _, h, _, _, _ => by simp [shpV] at h
/-! ### sorting such tuples -/
def TupAt (h : Heap) (v : Value) (us : List V) : Prop := ∃ a o its n, v = .ref a ∧ h.get? a = some o ∧ o.cls = .type "tuple" ∧ o.data = .seq its n ∧ Vals us its.toList
theorem TupAt.keeps {h h' : Heap} {v : Value} {us : List V} (p : TupAt h v us) (k : ∀ b o, h.get? b = some o → o.cls = .type "tuple" → h'.get? b = some o) : TupAt h' v us := by
  obtain ⟨a, o, its, n, e, ho, hc, hd, r⟩ := p
  exact ⟨a, o, its, n, e, k _ _ ho hc, hc, hd, r⟩
theorem tup_cmp {vs : List Value} {k : Value → List V} {sh : List Bool} (hp : ∀ v ∈ vs, TupAt s.heap v (k v) ∧ shpV (k v) = some sh) : SrtO.Cmp prog w A s (tuples' true) (fun p => p.1 ∈ vs) (SrtO.lt2 fun v u => lexV (k v) (k u)) := by
  intro p q hm hm'
  obtain ⟨⟨a, o, its, n, e, ho, hc, hd, r⟩, h1⟩ := hp _ hm
  obtain ⟨⟨a', o', its', n', e', ho', hc', hd', r'⟩, h2⟩ := hp _ hm'
  show wpAny (model prog w) A (keyLt' (tuples' true) p.1 q.1) (fun r s' => s' = s ∧ r = lexV (k p.1) (k q.1)) (fun _ _ => False) s
  generalize k p.1 = x at r h1 ⊢
  generalize k q.1 = y at r' h2 ⊢
  rw [e, e']
  refine PySem.W.kat_lt ho hd ho' hd' ?_
  have hl : ∀ {us : List V} {sh : List Bool}, shpV us = some sh → us.length = sh.length := by
    intro us
    induction us with
    | nil => intro sh h; have z := Option.some.inj (show some [] = some sh from h); rw [← z]; rfl
    | cons u us ih =>
      intro sh h
      cases u with
      | int i => cases q : shpV us with
        | none => simp [shpV, q] at h
        | some z => simp [shpV, q] at h; rw [← h, List.length_cons, List.length_cons, ih q]
      | str i => cases q : shpV us with
        | none => simp [shpV, q] at h
        | some z => simp [shpV, q] at h; rw [← h, List.length_cons, List.length_cons, ih q]
      | _ => simp [shpV] at h
  have ef : decide (its.size < its'.size) = false := by
    have q1 := r.length
    have q2 := r'.length
    have q3 := hl h1
    have q4 := hl h2
    have l1 : its.toList.length = its.size := by simp
    have l2 : its'.toList.length = its'.size := by simp
    exact decide_eq_false (by omega)
  rw [ef]
  exact kat_items 0 h1 h2 r r'
theorem tups_firsts {h : Heap} {k : Value → List V} {sh : List Bool} : ∀ {vs : List Value}, (∀ v ∈ vs, TupAt h v (k v) ∧ shpV (k v) = some (true :: sh)) → ∃ fs : List Value, PySem.W.KatTups h vs fs ∧ fs.length = vs.length ∧ ∀ f ∈ fs, ∃ x t, f = Value.int x t
  | [], _ => ⟨[], PySem.W.KatTups.nil, rfl, fun _ hm => by simp at hm⟩
  | v :: vs, hp => by
    obtain ⟨fs, h1, h2, h3⟩ := tups_firsts (vs := vs) fun v' hm => hp v' (List.mem_cons_of_mem _ hm)
    obtain ⟨⟨a, o, its, n, e, ho, hc, hd, r⟩, q⟩ := hp v List.mem_cons_self
    subst e
    generalize k (.ref a) = us at r q
    cases us with
    | nil => simp [shpV] at q
    | cons u us =>
      cases u with
      | int i =>
        obtain ⟨l⟩ := its
        cases r with
        | cons r1 r2 =>
          obtain ⟨t, rfl⟩ := r1
          refine ⟨.int i t :: fs, PySem.W.KatTups.cons ho hc hd (by first | rfl | simp) h1, by rw [List.length_cons, List.length_cons, h2], fun f hm => ?_⟩
          rcases List.mem_cons.mp hm with e | hm
          · exact ⟨i, t, e⟩
          · exact h3 f hm
      | str i => cases q' : shpV us <;> simp [shpV, q'] at q
      | _ => simp [shpV] at q
theorem tups_sortable {a : Addr} {vs : List Value} {k : Value → List V} {sh : List Bool} (h0 : 0 < vs.length) (hp : ∀ v ∈ vs, TupAt s.heap v (k v) ∧ shpV (k v) = some (true :: sh)) (ha : ∀ o, s.heap.get? a = some o → o.cls ≠ .type "tuple") : SrtO.SortableO prog w A s a vs fun v u => lexV (k v) (k u) := by
  intro h' keep
  have hp' : ∀ v ∈ vs, TupAt h' v (k v) ∧ shpV (k v) = some (true :: sh) := fun v hm => ⟨(hp v hm).1.keeps fun b o e c => keep b o (fun z => by subst z; exact ha o e c) e, (hp v hm).2⟩
  obtain ⟨fs, h1, h2, h3⟩ := tups_firsts hp'
  refine ⟨tuples' true, fun Q E hq => ?_, tup_cmp hp'⟩
  refine PySem.W.kat_kind (T := .type "int") h1 (by omega) (fun f hm => ?_) (by rfl) ?_
  · obtain ⟨x, t, rfl⟩ := h3 f hm
    exact PySem.W.Looks.now
  · have e : (Value.type "int" != Value.type "tuple") = true := by first | decide +kernel | rfl | decide
    rw [e]
    exact hq
end
/-- some items of a shape -/
def dfl : List Bool → List V
  | [] => []
  | true :: r => .int 0 :: dfl r
  | false :: r => .str ⟨#[]⟩ :: dfl r
theorem dfl_shp : ∀ sh, shpV (dfl sh) = some sh
  | [] => rfl
  | true :: r => by simp [dfl, shpV, dfl_shp r]
  | false :: r => by simp [dfl, shpV, dfl_shp r]
open Classical in
noncomputable def keyOf (K : PySem.W.Frag) (H : Hp) (sh : List Bool) (x : V) : List V := if h : ∃ us : List V, (∃ t, x = .ref t ∧ SqT K H t us) ∧ shpV us = some sh then Classical.choose h else dfl sh
theorem keyOf_shp {K : PySem.W.Frag} {H : Hp} {sh : List Bool} (x : V) : shpV (keyOf K H sh x) = some sh := by
  unfold keyOf
  split
  · rename_i h
    exact (Classical.choose_spec h).2
  · exact dfl_shp sh
section
variable {X : Cx}
theorem keyOf_is {pins : List (Addr × Obj)} {σ : L2.St} {H : Hp} {s : Shared} {sh : List Bool} {t : Addr} {us : List V} (I : Inv X pins σ H s) (h : SqT X.K H t us) (hs : shpV us = some sh) : keyOf X.K H sh (.ref t) = us := by
  have hx : ∃ us : List V, (∃ t', V.ref t = .ref t' ∧ SqT X.K H t' us) ∧ shpV us = some sh := ⟨us, ⟨t, rfl, h⟩, hs⟩
  unfold keyOf
  rw [dif_pos hx]
  obtain ⟨⟨t', e, h'⟩, _⟩ := Classical.choose_spec hx
  cases e
  exact I.tuple_inj h' h
theorem key_swo {K : PySem.W.Frag} {H : Hp} {sh : List Bool} : SrtO.Swo fun x y => lexV (keyOf K H sh x) (keyOf K H sh y) :=
  ⟨fun x y h => lexV_asym _ _ h, fun x y z h1 h2 => lexV_tr (keyOf_shp x) (keyOf_shp y) (keyOf_shp z) h1 h2⟩
def rSortedG (K : PySem.W.Frag) : List V → Hp → VK → Prop := fun vs H Q => ∃ (a : Addr) (xs : List V) (sh : List Bool), vs = [V.ref a] ∧ SqL K H a xs ∧ (∀ x ∈ xs, ∃ t us, x = V.ref t ∧ SqT K H t us ∧ shpV us = some (true :: sh)) ∧
  ∀ ys p, ys.Perm xs → (ys.Pairwise fun x y => ∀ t t' us ws, x = V.ref t → y = V.ref t' → SqT K H t us → SqT K H t' ws → shpV us = some (true :: sh) → shpV ws = some (true :: sh) → lexV ws us = false) → H p = none → Q (.ref p) (upd H p (.lst ys))
theorem cr_sortedG : CallR X (.builtin "sorted") (rSortedG X.K) := by
  intro pins s σ H vs us Q I r h
  obtain ⟨a, xs, sh, rfl, hs, hx, q⟩ := h
  obtain ⟨its, rv, hl, hz⟩ := I.list hs
  obtain ⟨u, rfl, ru⟩ := vals1 r
  obtain rfl : u = Value.ref a := ru
  obtain ⟨e1, e2⟩ := refs_back rv fun x m => by
    obtain ⟨t, _, e, _⟩ := hx x m
    exact ⟨t, e⟩
  have hp : ∀ v ∈ its, TupAt s.heap v (keyOf X.K H (true :: sh) (backV v)) ∧ shpV (keyOf X.K H (true :: sh) (backV v)) = some (true :: sh) := fun v hv => by
    refine ⟨?_, keyOf_shp _⟩
    obtain ⟨t, rfl⟩ := e2 v hv
    have hm : V.ref t ∈ xs := by rw [e1]; exact List.mem_map.mpr ⟨_, hv, rfl⟩
    obtain ⟨t', us, e, ht, hsh⟩ := hx _ hm
    cases e
    show TupAt s.heap (.ref t) (keyOf X.K H (true :: sh) (.ref t))
    rw [keyOf_is I ht hsh]
    obtain ⟨its2, r2, ⟨o, ho, hc, n, hd⟩, _⟩ := I.tuple ht
    exact ⟨t, o, _, n, rfl, ho, hc, hd, by simpa using r2⟩
  refine SrtO.sorted_ord (ltv := fun v u => lexV (keyOf X.K H (true :: sh) (backV v)) (keyOf X.K H (true :: sh) (backV u))) ⟨fun x y h => lexV_asym _ _ h, fun x y z h1 h2 => lexV_tr (keyOf_shp _) (keyOf_shp _) (keyOf_shp _) h1 h2⟩ hl.isList (by rw [← rv.length]; exact hz) (fun h2 h₁ a' ha kk => ?_) fun out h1 h2 => ?_
  · refine tups_sortable (s := { s with heap := h₁ }) (by omega) (fun v hm => ⟨(hp v hm).1.keeps fun b o e _ => (kk b o e).2, (hp v hm).2⟩) fun o e => ?_
    have e' : some o = some (seqObj "list" its.toArray 0) := e.symm.trans ha
    cases e'
    intro c
    exact absurd (Value.type.inj c) (by decide)
  · have h3 : ∀ u ∈ out, ∃ a, u = Value.ref a := fun u hu => e2 u (h2.perm.mem_iff.mp hu)
    have hd : s.heap.objs.size ≤ s.heap.objs.size + 1 := Nat.le_succ _
    have pm : (out.map backV).Perm xs := by
      rw [e1]
      exact h2.perm.map backV
    have at_ : (sortedAll s.heap its out.toArray).get? (s.heap.objs.size + 1) = some (seqObj "list" out.toArray _) := (PyProof.Rows.sortedAll_at s.heap its out.toArray).choose_spec
    refine ⟨.ref (s.heap.objs.size + 1), upd H (s.heap.objs.size + 1) (.lst (out.map backV)), I.laid (t' := s.toks) (fun b o e => PyProof.Rows.sortedAll_old e) hd ⟨?_, out, _, vals_back h3, at_⟩, rfl, q _ _ pm ?_ (I.hok.fresh hd)⟩
    · rw [List.length_map, h2.perm.length_eq, ← rv.length]
      exact hz
    · refine List.pairwise_map.mpr (h1.imp fun {x y} hxy t t' us ws ex ey hu hw su sw => ?_)
      rw [← keyOf_is I hu su, ← keyOf_is I hw sw, ← ex, ← ey]
      exact hxy
end
end VW
namespace VW
open PySem PySem.Spec PyProof.Rows L2

/-! ### sorted, on data -/
def tupOf : PyData → List PyData
  | .tuple ds => ds
  | _ => []
def isTup : PyData → Bool
  | .tuple _ => true
  | _ => false
def ltD (d e : PyData) : Bool := lexD (tupOf d) (tupOf e)
def insD (d : PyData) : List PyData → List PyData
  | [] => [d]
  | e :: r => if ltD e d = true then e :: insD d r else d :: e :: r
def sortD : List PyData → List PyData
  | [] => []
  | d :: r => insD d (sortD r)
def okShp (sh : List Bool) (d : PyData) : Prop := isTup d = true ∧ shpD (tupOf d) = some (true :: sh)
instance (sh : List Bool) (d : PyData) : Decidable (okShp sh d) := by unfold okShp; exact inferInstance
theorem shpD_nil {a : List PyData} (h : shpD a = some []) : a = [] := by
  cases a with
  | nil => rfl
  | cons x r => cases x <;> simp [shpD] at h <;> (try (cases q : shpD r <;> simp [q] at h))
theorem shpD_t {a : List PyData} {sh : List Bool} (h : shpD a = some (true :: sh)) : ∃ i r, a = .int i :: r ∧ shpD r = some sh := by
  cases a with
  | nil => simp [shpD] at h
  | cons x r =>
    cases x with
    | int i =>
      refine ⟨i, r, rfl, ?_⟩
      cases q : shpD r with
      | none => simp [shpD, q] at h
      | some z => simp [shpD, q] at h; rw [h]
    | str i => cases q : shpD r <;> simp [shpD, q] at h
    | _ => simp [shpD] at h
theorem shpD_f {a : List PyData} {sh : List Bool} (h : shpD a = some (false :: sh)) : ∃ i r, a = .str i :: r ∧ shpD r = some sh := by
  cases a with
  | nil => simp [shpD] at h
  | cons x r =>
    cases x with
    | str i =>
      refine ⟨i, r, rfl, ?_⟩
      cases q : shpD r with
      | none => simp [shpD, q] at h
      | some z => simp [shpD, q] at h; rw [h]
    | int i => cases q : shpD r <;> simp [shpD, q] at h
    | _ => simp [shpD] at h
theorem lexD_asym : ∀ {sh : List Bool} {a b : List PyData}, shpD a = some sh → shpD b = some sh → lexD a b = true → lexD b a = false
  | [], a, b, ha, hb, h => by
    rw [shpD_nil ha, shpD_nil hb] at h
    cases h
  | true :: sh, a, b, ha, hb, h => by
    obtain ⟨i, ra, rfl, ga⟩ := shpD_t ha
    obtain ⟨j, rb, rfl, gb⟩ := shpD_t hb
    unfold lexD at h ⊢
    by_cases e : i = j
    · subst e
      rw [if_pos rfl] at h ⊢
      exact lexD_asym ga gb h
    · rw [if_neg e] at h
      rw [if_neg (Ne.symm e)]
      have := of_decide_eq_true h
      exact decide_eq_false (by omega)
  | false :: sh, a, b, ha, hb, h => by
    obtain ⟨i, ra, rfl, ga⟩ := shpD_f ha
    obtain ⟨j, rb, rfl, gb⟩ := shpD_f hb
    unfold lexD at h ⊢
    by_cases e : i = j
    · subst e
      rw [if_pos rfl] at h ⊢
      exact lexD_asym ga gb h
    · rw [if_neg e] at h
      rw [if_neg (Ne.symm e)]
      exact decide_eq_false (slt_asymm (of_decide_eq_true h))
theorem lexD_anti : ∀ {sh : List Bool} {a b : List PyData}, shpD a = some sh → shpD b = some sh → lexD a b = false → lexD b a = false → a = b
  | [], a, b, ha, hb, _, _ => by rw [shpD_nil ha, shpD_nil hb]
  | true :: sh, a, b, ha, hb, h, h' => by
    obtain ⟨i, ra, rfl, ga⟩ := shpD_t ha
    obtain ⟨j, rb, rfl, gb⟩ := shpD_t hb
    unfold lexD at h h'
    by_cases e : i = j
    · subst e
      rw [if_pos rfl] at h h'
      rw [lexD_anti ga gb h h']
    · rw [if_neg e] at h
      rw [if_neg (Ne.symm e)] at h'
      have := of_decide_eq_false h
      have := of_decide_eq_false h'
      omega
  | false :: sh, a, b, ha, hb, h, h' => by
    obtain ⟨i, ra, rfl, ga⟩ := shpD_f ha
    obtain ⟨j, rb, rfl, gb⟩ := shpD_f hb
    unfold lexD at h h'
    by_cases e : i = j
    · subst e
      rw [if_pos rfl] at h h'
      rw [lexD_anti ga gb h h']
    · rw [if_neg e] at h
      rw [if_neg (Ne.symm e)] at h'
      exact absurd (slt_tri i j (of_decide_eq_false h) (of_decide_eq_false h')) e
theorem lexD_tr : ∀ {sh : List Bool} {a b c : List PyData}, shpD a = some sh → shpD b = some sh → shpD c = some sh → lexD b a = false → lexD c b = false → lexD c a = false
  | [], a, b, c, ha, hb, hc, _, _ => by rw [shpD_nil ha, shpD_nil hc]; rfl
  | true :: sh, a, b, c, ha, hb, hc, h1, h2 => by
    obtain ⟨i, ra, rfl, ga⟩ := shpD_t ha
    obtain ⟨j, rb, rfl, gb⟩ := shpD_t hb
    obtain ⟨k, rc, rfl, gc⟩ := shpD_t hc
    unfold lexD at h1 h2 ⊢
    by_cases e1 : j = i
    · subst e1
      rw [if_pos rfl] at h1
      by_cases e2 : k = j
      · subst e2
        rw [if_pos rfl] at h2 ⊢
        exact lexD_tr ga gb gc h1 h2
      · rw [if_neg e2] at h2 ⊢
        exact h2
    · rw [if_neg e1] at h1
      have q1 := of_decide_eq_false h1
      by_cases e2 : k = j
      · subst e2
        rw [if_neg e1]
        exact h1
      · rw [if_neg e2] at h2
        have q2 := of_decide_eq_false h2
        have ne : ¬ k = i := by omega
        rw [if_neg ne]
        exact decide_eq_false (by omega)
  | false :: sh, a, b, c, ha, hb, hc, h1, h2 => by
    obtain ⟨i, ra, rfl, ga⟩ := shpD_f ha
    obtain ⟨j, rb, rfl, gb⟩ := shpD_f hb
    obtain ⟨k, rc, rfl, gc⟩ := shpD_f hc
    unfold lexD at h1 h2 ⊢
    by_cases e1 : j = i
    · subst e1
      rw [if_pos rfl] at h1
      by_cases e2 : k = j
      · subst e2
        rw [if_pos rfl] at h2 ⊢
        exact lexD_tr ga gb gc h1 h2
      · rw [if_neg e2] at h2 ⊢
        exact h2
    · rw [if_neg e1] at h1
      have q1 := of_decide_eq_false h1
      by_cases e2 : k = j
      · subst e2
        rw [if_neg e1]
        exact h1
      · rw [if_neg e2] at h2
        have q2 := of_decide_eq_false h2
        have ij : i.cps.toList < j.cps.toList := Decidable.byContradiction fun z => e1 (slt_tri j i q1 z)
        have jk : j.cps.toList < k.cps.toList := Decidable.byContradiction fun z => e2 (slt_tri k j q2 z)
        have ik := slt_trans ij jk
        have ne : ¬ k = i := fun z => by subst z; exact slt_irrefl _ ik
        rw [if_neg ne]
        exact decide_eq_false (slt_asymm ik)
theorem okShp.tup {sh : List Bool} {d : PyData} (h : okShp sh d) : d = .tuple (tupOf d) := by
  cases d with
  | tuple ds => rfl
  | _ => cases h.1
theorem ltD_anti {sh : List Bool} {d e : PyData} (h : okShp sh d) (h' : okShp sh e) (h1 : ltD d e = false) (h2 : ltD e d = false) : d = e := by
  rw [h.tup, h'.tup, lexD_anti h.2 h'.2 h1 h2]
abbrev Rise (l : List PyData) : Prop := l.Pairwise fun x y => ltD y x = false
theorem insD_perm (d : PyData) : ∀ l, (insD d l).Perm (d :: l)
  | [] => List.Perm.refl _
  | e :: r => by
    unfold insD
    split
    · exact ((insD_perm d r).cons e).trans (List.Perm.swap d e r)
    · exact List.Perm.refl _
theorem sortD_perm : ∀ l, (sortD l).Perm l
  | [] => List.Perm.refl _
  | d :: r => (insD_perm d _).trans ((sortD_perm r).cons d)
theorem insD_rise {sh : List Bool} {d : PyData} (hd : okShp sh d) : ∀ {l : List PyData}, (∀ x ∈ l, okShp sh x) → Rise l → Rise (insD d l)
  | [], _, _ => List.pairwise_singleton _ _
  | e :: r, ho, hr => by
    obtain ⟨h1, h2⟩ := List.pairwise_cons.mp hr
    have oe := ho e List.mem_cons_self
    unfold insD
    split
    · rename_i c
      refine List.pairwise_cons.mpr ⟨fun x hx => ?_, insD_rise hd (fun x m => ho x (List.mem_cons_of_mem _ m)) h2⟩
      rcases List.mem_cons.mp ((insD_perm d r).mem_iff.mp hx) with rfl | hx
      · exact lexD_asym oe.2 hd.2 c
      · exact h1 x hx
    · rename_i c
      have c' : ltD e d = false := by
        cases q : ltD e d with
        | true => exact absurd q c
        | false => rfl
      refine List.pairwise_cons.mpr ⟨fun x hx => ?_, hr⟩
      rcases List.mem_cons.mp hx with rfl | hx
      · exact c'
      · exact lexD_tr hd.2 oe.2 (ho x (List.mem_cons_of_mem _ hx)).2 c' (h1 x hx)
theorem sortD_rise {sh : List Bool} : ∀ {l : List PyData}, (∀ x ∈ l, okShp sh x) → Rise (sortD l)
  | [], _ => List.Pairwise.nil
  | d :: r, ho => insD_rise (ho d List.mem_cons_self) (fun x m => ho x (List.mem_cons_of_mem _ ((sortD_perm r).mem_iff.mp m))) (sortD_rise fun x m => ho x (List.mem_cons_of_mem _ m))
theorem rise_uniq {sh : List Bool} : ∀ {l m : List PyData}, (∀ x ∈ l, okShp sh x) → l.Perm m → Rise l → Rise m → l = m
  | [], m, _, p, _, _ => (List.Perm.eq_nil p.symm).symm
  | x :: l, [], _, p, _, _ => absurd p.length_eq (by simp)
  | x :: l, y :: m, ho, p, hl, hm => by
    have ox := ho x List.mem_cons_self
    have oy := ho y (p.mem_iff.mpr List.mem_cons_self)
    obtain ⟨l1, l2⟩ := List.pairwise_cons.mp hl
    obtain ⟨m1, m2⟩ := List.pairwise_cons.mp hm
    have rf : ∀ z, okShp sh z → ltD z z = false := fun z oz => by
      cases q : ltD z z with
      | false => rfl
      | true =>
        have := lexD_asym oz.2 oz.2 q
        have q' : lexD (tupOf z) (tupOf z) = true := q
        rw [q'] at this
        cases this
    have h1 : ltD x y = false := by
      rcases List.mem_cons.mp (p.mem_iff.mp (List.mem_cons_self (a := x) (l := l))) with e | hx
      · rw [e]; exact rf y oy
      · exact m1 x hx
    have h2 : ltD y x = false := by
      rcases List.mem_cons.mp (p.mem_iff.mpr (List.mem_cons_self (a := y) (l := m))) with e | hy
      · rw [e]; exact rf x ox
      · exact l1 y hy
    have e := ltD_anti ox oy h1 h2
    subst e
    rw [rise_uniq (fun z m => ho z (List.mem_cons_of_mem _ m)) p.cons_inv l2 m2]
theorem sortD_eq {sh : List Bool} {l m : List PyData} (ho : ∀ x ∈ l, okShp sh x) (p : l.Perm m) (hl : Rise l) : l = sortD m :=
  rise_uniq ho (p.trans (sortD_perm m).symm) hl (sortD_rise (sh := sh) fun x hx => ho x (p.mem_iff.mpr hx))
theorem sortD_of_rise {sh : List Bool} {l : List PyData} (ho : ∀ x ∈ l, okShp sh x) (hl : Rise l) : sortD l = l := (sortD_eq ho (List.Perm.refl _) hl).symm
theorem sortD_congr {sh : List Bool} {l m : List PyData} (ho : ∀ x ∈ l, okShp sh x) (p : l.Perm m) : sortD l = sortD m :=
  sortD_eq (fun x hx => ho x ((sortD_perm l).mem_iff.mp hx)) ((sortD_perm l).trans p) (sortD_rise ho)
def sortOk (ds : List PyData) : Option (List Bool) := match ds with
  | [] => some []
  | d :: _ => match shpD (tupOf d) with
    | some (true :: sh) => if (∀ x ∈ ds, okShp sh x) then some sh else none
    | _ => none
theorem sortOk_all {ds : List PyData} {sh : List Bool} (h : sortOk ds = some sh) : ∀ x ∈ ds, okShp sh x := by
  cases ds with
  | nil => exact fun x m => by cases m
  | cons d r =>
    unfold sortOk at h
    dsimp only at h
    split at h
    · split at h
      · rename_i c
        cases h
        exact c
      · cases h
    · cases h
theorem sortOk_of {ds : List PyData} {sh : List Bool} (h : ∀ x ∈ ds, okShp sh x) : ∃ sh', sortOk ds = some sh' := by
  cases ds with
  | nil => exact ⟨[], rfl⟩
  | cons d r =>
    refine ⟨sh, ?_⟩
    unfold sortOk
    dsimp only
    rw [(h d List.mem_cons_self).2]
    exact if_pos h
def pySorted : List PyData → M (List PyData)
  | [d] => match lstOf d with
    | some ds => match sortOk ds with
      | some _ => ret (sortD ds)
      | none => none
    | none => none
  | _ => none
theorem perm_is {K : PySem.W.Frag} {L : Own} {H : Hp} {ys xs : List V} (p : ys.Perm xs) : ∀ {ds : List PyData}, IsAll K L H xs ds → ∃ zs : List PyData, zs.Perm ds ∧ IsAll K L H ys zs := by
  induction p with
  | nil => intro ds h; exact ⟨ds, List.Perm.refl _, h⟩
  | cons x p ih =>
    intro ds h
    cases h with
    | cons h1 h2 =>
      obtain ⟨zs, q, r⟩ := ih h2
      exact ⟨_ :: zs, q.cons _, .cons h1 r⟩
  | swap x y l =>
    intro ds h
    cases h with
    | cons h1 h2 =>
      cases h2 with
      | cons h3 h4 => exact ⟨_, List.Perm.swap _ _ _, .cons h3 (.cons h1 h4)⟩
  | trans p q ih1 ih2 =>
    intro ds h
    obtain ⟨zs, a, b⟩ := ih2 h
    obtain ⟨ws, c, d⟩ := ih1 b
    exact ⟨ws, c.trans a, d⟩
theorem rise_is {K : PySem.W.Frag} {L : Own} {H : Hp} {sh : List Bool} : ∀ {ys : List V} {zs : List PyData}, IsAll K L H ys zs → (∀ x ∈ zs, okShp sh x) →
    (ys.Pairwise fun x y => ∀ t t' us ws, x = V.ref t → y = V.ref t' → SqT K H t us → SqT K H t' ws → shpV us = some (true :: sh) → shpV ws = some (true :: sh) → lexV ws us = false) → Rise zs
  | [], zs, h, _, _ => by cases h; exact List.Pairwise.nil
  | y :: ys, zs, h, ho, hp => by
    cases h with
    | cons h1 h2 =>
      rename_i d ds
      obtain ⟨p1, p2⟩ := List.pairwise_cons.mp hp
      refine List.pairwise_cons.mpr ⟨fun e he => ?_, rise_is h2 (fun x m => ho x (List.mem_cons_of_mem _ m)) p2⟩
      obtain ⟨i, hi⟩ := List.getElem?_of_mem he
      obtain ⟨v, hv, iv⟩ := h2.get hi
      have od := ho d List.mem_cons_self
      have oe := ho e (List.mem_cons_of_mem _ he)
      rw [od.tup] at h1
      rw [oe.tup] at iv
      obtain ⟨a, us, ea, sa, ia⟩ := h1.tupD
      obtain ⟨b, ws, eb, sb, ib⟩ := iv.tupD
      have q := p1 v (List.mem_of_getElem? hv) a b us ws ea eb sa sb (shp_rel ia od.2) (shp_rel ib oe.2)
      rw [lex_rel ib ia oe.2 od.2] at q
      exact q
section
variable {X : Cx} {cl : Ex → Addr} {W : WX} {e a b : Expr} {f g : Rho → M PyData} {fa fb : Rho → M (List PyData)} {pos p : Pos}
theorem dr_sorted : DRCF X (rSortedG X.K) pySorted := by
  intro L H vs ds zs hL i hz Q hq
  unfold pySorted at hz
  split at hz
  · rename_i d
    split at hz
    · rename_i es e1
      split at hz
      · rename_i sh e2
        have e3 := ret_ok hz
        subst e3
        obtain ⟨v, rfl, iv⟩ := i.one
        obtain ⟨a, xs, rfl, h1, h2⟩ := iv.lstK e1
        have ok := sortOk_all e2
        refine ⟨a, xs, sh, rfl, h2 _ _ (Kp.refl L H), fun x hx => ?_, fun ys p pm hp hn => ?_⟩
        · obtain ⟨i, hi⟩ := List.getElem?_of_mem hx
          obtain ⟨d, hd, id⟩ := h1.get' hi
          have od := ok d (List.mem_of_getElem? hd)
          rw [od.tup] at id
          obtain ⟨t, us, e4, h3, h4⟩ := id.tupD
          exact ⟨t, us, e4, h3, shp_rel h4 od.2⟩
        · obtain ⟨zs, q1, q2⟩ := perm_is pm h1
          have oz : ∀ x ∈ zs, okShp sh x := fun x hx => ok x (q1.mem_iff.mp hx)
          have ez : zs = sortD es := sortD_eq oz q1 (rise_is q2 oz hp)
          subst ez
          exact hq p ys _ hn (Same.new hn) upd_same (q2.upd hn)
      · cases hz
    · cases hz
  · cases hz
theorem ne_sorted : NoEr1 pySorted := by
  intro d n
  unfold pySorted
  split
  · split
    · split
      · exact ret_er
      · exact none_er
    · exact none_er
  · exact none_er
theorem gf_sorted (hm : X.mg "sorted" = none) (ha : GA X cl W [e] fa) (hg : Gl X "sorted" := by rfl) (he : starEach [e] X.env = (false, eval e X.env) :: starEach [] X.env := by rfl) : GF X cl W (.Call (.Name "sorted" p) [e] [] pos) (mCallF pySorted fa) :=
  gf_callB cr_sortedG dr_sorted ne_sorted hm (by decide +kernel) ha hg (by decide) (by decide) he rfl

/-! ### slices -/
def mO (f : Rho → M PyData) : Rho → M (Option Int) := fun ρ => bnd (f ρ) fun d => match d with
  | .int i => ret (some i)
  | _ => none
def mO0 : Rho → M (Option Int) := fun _ => ret none
def cutD {α : Type} (xs : List α) (lo hi : Option Int) : List α := (xs.drop (HT.sIx xs.length 0 lo)).take (HT.sIx xs.length xs.length hi - HT.sIx xs.length 0 lo)
/-- xs[lo:hi] of a list -/
def mSlL (f : Rho → M PyData) (l h : Rho → M (Option Int)) : Rho → M (List PyData) := fun ρ => bnd (f ρ) fun d => bnd (l ρ) fun lo => bnd (h ρ) fun hi => ofO (lstOf d) fun ds => cutD ds lo hi
/-- xs[lo:hi] of a list, a tuple, a text -/
def pySl (d : PyData) (lo hi : Option Int) : M PyData := match d with
  | .list ds => ret (.list (cutD ds lo hi))
  | .dict [(.none, .list ds)] => ret (.list (cutD ds lo hi))
  | .tuple ds => ret (.tuple (cutD ds lo hi))
  | .str z => if z.length ≤ 16777216 then ret (.str (cutS z lo hi)) else none
  | _ => none
def mSl (f : Rho → M PyData) (l h : Rho → M (Option Int)) : Rho → M PyData := fun ρ => bnd (f ρ) fun d => bnd (l ρ) fun lo => bnd (h ρ) fun hi => pySl d lo hi
structure GO (X : Cx) (cl : Ex → Addr) (W : WX) (e : Option Expr) (f : Rho → M (Option Int)) : Prop where
  ex : ∃ to : TO, PO X e to ∧ ∀ {Hb L0 α ρ σ H}, Env X.K Hb L0 α ρ σ H → f ρ ≠ none → ∀ Q : Option Int → Hp → Prop, (∀ o H', f ρ = some (.ok o) → Same H H' → Q o H') → (∀ n H', f ρ = some (.er n) → Same H H' → W (.ref (cl n)) none σ H') → to σ H Q
theorem go_none : GO X cl W none mO0 := ⟨_, po_none, fun E hne Q hq hr => hq none _ rfl (Same.refl _)⟩
theorem go_some (he : GE X cl W e f) : GO X cl W (some e) (mO f) := by
  obtain ⟨te, p, d⟩ := he
  refine ⟨_, po_some p, fun {Hb L0 α ρ σ H} E hne Q hq hr => d E (bnd_ne hne) _ ⟨fun z v H1 e1 s1 i1 => ?_, fun n H1 e1 s1 => hr n H1 (bnd_raise e1) s1⟩⟩
  have n1 := bnd_at hne e1
  have q1 : mO f ρ = _ := bnd_eq e1
  cases z with
  | int i => exact ⟨i, i1.intD, hq (some i) H1 q1 s1⟩
  | _ => exact absurd rfl n1
theorem IsAll.cut {K : PySem.W.Frag} {L : Own} {H : Hp} {vs : List V} {ds : List PyData} (h : IsAll K L H vs ds) (lo hi : Option Int) : IsAll K L H (cutV vs lo hi) (cutD ds lo hi) := by
  unfold cutV cutD
  rw [h.len]
  exact (h.drop _).take _
variable {el eh : Option Expr} {fl fh : Rho → M (Option Int)} {p2 : Pos}
theorem gf_slice (ha : GE X cl W a f) (h1 : GO X cl W el fl) (h2 : GO X cl W eh fh) : GF X cl W (.Subscript a (.Slice el eh none p2) pos) (mSlL f fl fh) := by
  obtain ⟨ta, p1, d1⟩ := ha
  obtain ⟨tl, p3, d3⟩ := h1
  obtain ⟨th, p4, d4⟩ := h2
  refine ⟨_, pe_slice sl_list p1 p3 p4, fun {Hb L0 α ρ σ H} E hne Q hq => d1 E (bnd_ne hne) _ ⟨fun d v H1 e1 s1 i1 => ?_, fun n H1 e1 s1 => hq.2 n H1 (bnd_raise e1) s1⟩⟩
  have n1 := bnd_at hne e1
  have q1 : mSlL f fl fh ρ = _ := bnd_eq e1
  refine d3 (E.mono s1) (bnd_ne n1) _ (fun lo H2 e2 s2 => ?_) fun n H2 e2 s2 => hq.2 n H2 (q1.trans (bnd_raise e2)) (s1.trans s2)
  have n2 := bnd_at n1 e2
  have q2 := q1.trans (bnd_eq e2)
  refine d4 (E.mono (s1.trans s2)) (bnd_ne n2) _ (fun hi H3 e3 s3 => ?_) fun n H3 e3 s3 => hq.2 n H3 (q2.trans (bnd_raise e3)) ((s1.trans s2).trans s3)
  have n3 := bnd_at n2 e3
  have q3 := q2.trans (bnd_eq e3)
  cases ed : lstOf d with
  | none => rw [ed] at n3; exact absurd rfl n3
  | some ds =>
    rw [ed] at q3
    have s13 := (s1.trans s2).trans s3
    obtain ⟨b, xs, rfl, h3, h4⟩ := ((i1.same s2).same s3).lstK ed
    exact ⟨b, xs, rfl, h4 _ _ (Kp.refl _ _), fun p hp => hq.1 _ p _ _ q3 (s13.free hp) (s13.trans (Same.new hp)) upd_same ((h3.cut lo hi).upd hp)⟩
theorem SlR.or {r r' : V → Option Int → Option Int → Hp → VK → Prop} (h : SlR X r) (h' : SlR X r') : SlR X (fun x lo hi H Q => r x lo hi H Q ∨ r' x lo hi H Q) := by
  intro pins s σ H x v vl vu lo hi sl Q I rx hs pl pu q
  rcases q with q | q
  · exact h pins s σ H x v vl vu lo hi sl Q I rx hs pl pu q
  · exact h' pins s σ H x v vl vu lo hi sl Q I rx hs pl pu q
theorem ge_slice (ha : GE X cl W a f) (h1 : GO X cl W el fl) (h2 : GO X cl W eh fh) : GE X cl W (.Subscript a (.Slice el eh none p2) pos) (mSl f fl fh) := by
  obtain ⟨ta, p1, d1⟩ := ha
  obtain ⟨tl, p3, d3⟩ := h1
  obtain ⟨th, p4, d4⟩ := h2
  refine ⟨_, pe_slice (SlR.or sl_list (SlR.or sl_tupA sl_str)) p1 p3 p4, fun {Hb L0 α ρ σ H} E hne Q hq => d1 E (bnd_ne hne) _ ⟨fun d v H1 e1 s1 i1 => ?_, fun n H1 e1 s1 => hq.2 n H1 (bnd_raise e1) s1⟩⟩
  have n1 := bnd_at hne e1
  have q1 : mSl f fl fh ρ = _ := bnd_eq e1
  refine d3 (E.mono s1) (bnd_ne n1) _ (fun lo H2 e2 s2 => ?_) fun n H2 e2 s2 => hq.2 n H2 (q1.trans (bnd_raise e2)) (s1.trans s2)
  have n2 := bnd_at n1 e2
  have q2 := q1.trans (bnd_eq e2)
  refine d4 (E.mono (s1.trans s2)) (bnd_ne n2) _ (fun hi H3 e3 s3 => ?_) fun n H3 e3 s3 => hq.2 n H3 (q2.trans (bnd_raise e3)) ((s1.trans s2).trans s3)
  have n3 := bnd_at n2 e3
  have q3 := q2.trans (bnd_eq e3)
  have s13 := (s1.trans s2).trans s3
  have i3 := (i1.same s2).same s3
  have dm := (E.mono s13).dom
  unfold pySl at n3 q3
  split at n3
  · obtain ⟨b, xs, rfl, nl, h3, h4⟩ := i3.lstD
    exact .inl ⟨b, xs, rfl, SqL.of h3, fun p hp => hq.1 _ _ _ q3 (s13.trans (Same.new hp)) (Is.newL dm hp (h4.cut lo hi))⟩
  · obtain ⟨b, xs, rfl, h3, h4⟩ := i3.scrD
    exact .inl ⟨b, xs, rfl, h3, fun p hp => hq.1 _ _ _ q3 (s13.trans (Same.new hp)) (Is.newL dm hp (h4.cut lo hi))⟩
  · rename_i ds
    obtain ⟨b, xs, rfl, h3, h4⟩ := i3.tupD
    refine .inr (.inl ⟨b, xs, rfl, h3, fun hw => ?_, fun _ p hp => hq.1 _ _ _ q3 (s13.trans (Same.new hp)) (Is.newT dm hp (h4.cut lo hi))⟩)
    have ec : cutD ds lo hi = ds := by
      unfold cutD
      rw [← h4.len, hw.1, hw.2, List.drop_zero, Nat.sub_zero, h4.len, List.take_length]
    have q4 : mSl f fl fh ρ = ret (.tuple (cutD ds lo hi)) := q3
    rw [ec] at q4
    exact hq.1 _ _ _ q4 s13 i3
  · obtain ⟨c1, c2⟩ := if_inv n3
    exact .inr (.inr ⟨_, i3.strD, szl c1, hq.1 _ _ _ (q3.trans c2) s13 (.str _)⟩)
  · exact absurd rfl n3
/-! ### x + e, x a list that the frame holds -/
def mCatO (i : Nat) (f : Rho → M PyData) : Rho → M (List PyData) := fun ρ => match ρ[i]? with
  | some (some (.own ds)) => bnd (f ρ) fun d => match d with
    | .list es => if ds.length + es.length ≤ 16777216 then ret (ds ++ es) else none
    | _ => none
  | _ => none
theorem gf_catO (i : Nat) {x : Str} {px : Pos} (hb : GE X cl W b f) (hN : X.N[i]? = some x := by rfl) (hv : Vis X.env.scope x := by first | exact Or.inl rfl | exact Or.inr (Or.inl rfl) | exact Or.inr (Or.inr rfl)) (hd : (x == ("__debug__" : Str)) = false := by decide)
    (hcd : (x == ("__classdict__" : Str)) = false := by decide) : GF X cl W (.BinOp (.Name x px) .Add b pos) (mCatO i f) := by
  obtain ⟨tb, p2, d2⟩ := hb
  refine ⟨_, pe_op op_cat (pe_var hN hv hd hcd) p2, fun {Hb L0 α ρ σ H} E hne Q hq => ?_⟩
  unfold mCatO at hne hq
  split at hne
  · rename_i ds e0
    have e0' : ρ[i]? = some (some (Sl.own ds)) := e0
    rw [e0'] at hq
    obtain ⟨v, h1, l, xs, h2, rfl, h3, h4⟩ := E.sl i (.own ds) e0
    refine ⟨.ref l, h1, d2 E (bnd_ne hne) _ ⟨fun d w H1 e1 s1 i1 => ?_, fun n H1 e1 s1 => hq.2 n H1 (bnd_raise e1) s1⟩⟩
    have n1 := bnd_at hne e1
    have q1 := bnd_eq (k := fun d => match d with
      | PyData.list es => if ds.length + es.length ≤ 16777216 then ret (ds ++ es) else none
      | _ => none) e1
    cases d with
    | list es =>
      have n1' : (if ds.length + es.length ≤ 16777216 then ret (ds ++ es) else none : M (List PyData)) ≠ none := n1
      obtain ⟨c1, c2⟩ := if_inv n1'
      obtain ⟨b, ys, rfl, nb, h5, h6⟩ := i1.lstD
      exact ⟨l, b, xs, ys, rfl, rfl, s1 _ _ h3, h5, szl (by rw [h4.len, h6.len]; exact c1), fun p hp => hq.1 _ p _ _ (q1.trans c2) (s1.free hp) (s1.trans (Same.new hp)) upd_same (((h4.same s1).append h6).upd hp)⟩
    | _ => exact absurd rfl n1
  · exact absurd rfl hne
/-- a + b, lists -/
def mCat (f g : Rho → M PyData) : Rho → M (List PyData) := fun ρ => bnd (f ρ) fun d => bnd (g ρ) fun e => match d, e with
  | .list ds, .list es => if ds.length + es.length ≤ 16777216 then ret (ds ++ es) else none
  | _, _ => none
end
end VW
namespace VW
open PySem PySem.Spec PyProof.Rows L2

/-! ### what the module's top has bound -/
/-- x holds d, for good -/
def Con1 (K : PySem.W.Frag) (mg : Str → Option Value) (x : Str) (d : PyData) : Prop := ∃ v u, mg x = some u ∧ RelV v u ∧ ∀ L H, Is K L H v d
theorem con_int {K : PySem.W.Frag} {mg : Str → Option Value} {x : Str} {i : Int} {t : Tok} (h : mg x = some (.int i t)) : Con1 K mg x (.int i) := ⟨.int i, _, h, ⟨t, rfl⟩, fun _ _ => .int i⟩
theorem con_str {K : PySem.W.Frag} {mg : Str → Option Value} {x z : Str} {t : Tok} (h : mg x = some (.str z t)) : Con1 K mg x (.str z) := ⟨.str z, _, h, ⟨t, rfl⟩, fun _ _ => .str z⟩
theorem con_tup {K : PySem.W.Frag} {mg : Str → Option Value} {x : Str} {a : Addr} {od : Option Addr} {its : Array Value} {n : Nat} {sl : Array (Option Value)} {xs : List V} {ds : List PyData} (h : mg x = some (.ref a)) (l : K.lookup a = some ⟨.type "tuple", od, .seq its n, sl⟩)
    (r : Vals xs its.toList) (hz : its.size ≤ sizeLine) (hd : ∀ L H, IsAll K L H xs ds) (h3 : ds.length ≠ 3 := by decide) : Con1 K mg x (.tuple ds) :=
  ⟨.ref a, _, h, rfl, fun L H => .tup (.inr ⟨h3, _, its, n, l, rfl, rfl, hz, r⟩) (hd L H)⟩
section
variable {X : Cx} {cl : Ex → Addr} {W : WX} {a b : Expr} {f g : Rho → M PyData} {pos p : Pos}
theorem ge_const {x : Str} {d : PyData} (h : Con1 X.K X.mg x d) (hg : Gl X x := by rfl) (hd : (x == ("__debug__" : Str)) = false := by decide) : GE X cl W (.Name x p) (mC d) := by
  obtain ⟨v, u, h1, h2, h3⟩ := h
  exact ge_glob h1 h2 h3 hg hd
/-- a + b, lists -/
theorem gf_cat (ha : GE X cl W a f) (hb : GE X cl W b g) : GF X cl W (.BinOp a .Add b pos) (mCat f g) := by
  obtain ⟨ta, p1, d1⟩ := ha
  obtain ⟨tb, p2, d2⟩ := hb
  refine ⟨_, pe_op op_cat p1 p2, fun {Hb L0 α ρ σ H} E hne Q hq => d1 E (bnd_ne hne) _ ⟨fun d v H1 e1 s1 i1 => ?_, fun n H1 e1 s1 => hq.2 n H1 (bnd_raise e1) s1⟩⟩
  have n1 := bnd_at hne e1
  have q1 : mCat f g ρ = _ := bnd_eq e1
  refine d2 (E.mono s1) (bnd_ne n1) _ ⟨fun e w H2 e2 s2 i2 => ?_, fun n H2 e2 s2 => hq.2 n H2 (q1.trans (bnd_raise e2)) (s1.trans s2)⟩
  have n2 := bnd_at n1 e2
  have q2 := q1.trans (bnd_eq e2)
  split at n2
  · rename_i ds es
    obtain ⟨c1, c2⟩ := if_inv n2
    obtain ⟨a, xs, rfl, na, h3, h4⟩ := (i1.same s2).lstD
    obtain ⟨b, ys, rfl, nb, h5, h6⟩ := i2.lstD
    exact ⟨a, b, xs, ys, rfl, rfl, h3, h5, szl (by rw [h4.len, h6.len]; exact c1), fun p hp => hq.1 _ p _ _ (q2.trans c2) ((s1.trans s2).free hp) ((s1.trans s2).trans (Same.new hp)) upd_same ((h4.append h6).upd hp)⟩
  · exact absurd rfl n2
end
/-! ### a law's own promise -/
def spT (K : PySem.W.Frag) (F : List PyData → M PyData) : Sp := fun vs H Q _ => vs.length = 1 ∧ ∃ ds : List PyData, IsAll K (fun _ => False) H vs ds ∧ F ds = ret (.bool true) ∧ ∀ H', Q (.bl true) H'
theorem spT_of {K : PySem.W.Frag} {cl : Ex → Addr} {F : List PyData → M PyData} : ∀ vs H Q E, spT K F vs H Q E → spD K cl 1 F vs H Q E := by
  rintro vs H Q E ⟨h1, ds, h2, h3, h4⟩
  refine ⟨h1, fun _ => False, ds, fun _ z => z.elim, h2, by rw [h3]; exact Option.some_ne_none _, fun d v H' e _ i => ?_, fun x H' e => ?_⟩
  · rw [h3] at e
    cases e
    cases i
    exact h4 H'
  · rw [h3] at e
    cases e
theorem spT_sc {K : PySem.W.Frag} {F : List PyData → M PyData} {H : Hp} {a : Addr} {ns : List Int} (ho : Only H) (hS : SqL K H a (ns.map V.int)) (hF : F [.dict [(.none, .list (ns.map .int))]] = ret (.bool true)) : spT K F [.ref a] H (fun v _ => v = .bl true) fun _ _ _ => False := by
  refine ⟨rfl, _, .cons (.scr (ns := ns) ?_) .nil, hF, fun _ => rfl⟩
  rcases hS with (h | ⟨o, h⟩) | h
  · rcases ho a with q | ⟨o, xs, q⟩
    · rw [h] at q
      cases q
    · rw [h] at q
      cases q
  · exact .inl ⟨fun z => z, o, h⟩
  · exact .inr h
/-! ### what a def's body may do -/
section
variable {CX : CXT} {P : Program} {w : World} {K : PySem.W.Frag} {mg : Str → Option Value} {base : Heap} {N : List Str} {qual : Str} {sc : Scope} {f : Addr} {cdv : Value} {A : Around} {outer : List PySem.Env} {s : Shared} {H : Hp} {E : XK}
theorem tk_def : Takes (cxOf (L2.CX P w) P w K mg base N qual sc f cdv A outer s H E) (WF E) := takes_of rfl rfl rfl rfl
theorem hp_def : PassesOwn (model (cxOf (L2.CX P w) P w K mg base N qual sc f cdv A outer s H E).prog (cxOf (L2.CX P w) P w K mg base N qual sc f cdv A outer s H E).w) (cxOf (L2.CX P w) P w K mg base N qual sc f cdv A outer s H E).A (cxOf (L2.CX P w) P w K mg base N qual sc f cdv A outer s H E).env (cxOf (L2.CX P w) P w K mg base N qual sc f cdv A outer s H E).xe := passes_of rfl
end
end VW
namespace VW
open PySem PySem.Spec PyProof.Rows L2
def mRng3 (f : Rho → M (List PyData)) : Rho → M (List PyData) := fun ρ => bnd (f ρ) fun vs => match vs with
  | [.int i, .int j, .int c] => if 0 < c ∧ c < 1000000 ∧ Builtin.Range.small i j c = true ∧ ((Builtin.Range.rangeSize i j c).toNat : Int) = Builtin.Range.rangeSize i j c then ret ((List.range (Builtin.Range.rangeSize i j c).toNat).map fun k : Nat => PyData.int (i + (k : Int) * c)) else none
  | _ => none
theorem itd_rangeC {K : PySem.W.Frag} {L : Own} {H : Hp} {lo c : Int} {n : Nat} : ItD K L H (Itc lo c n) ((List.range n).map fun k : Nat => PyData.int (lo + (k : Int) * c)) := by
  refine ⟨fun L' H' k => ?_, fun i d e L' H' k hL => ?_⟩
  · show n ≤ _
    rw [List.length_map, List.length_range]
    exact Nat.le_refl _
  · rw [List.getElem?_map] at e
    cases q : (List.range n)[i]? with
    | none => rw [q] at e; cases e
    | some j =>
      obtain ⟨hj, ej⟩ := List.getElem?_eq_some_iff.mp q
      rw [List.getElem_range] at ej
      rw [List.length_range] at hj
      subst ej
      rw [q] at e
      cases e
      refine ⟨hj, fun x H2 y => ?_⟩
      obtain ⟨rfl, rfl⟩ := y
      exact ⟨Same.refl _, .int _⟩
theorem IsAll.three {K : PySem.W.Frag} {L : Own} {H : Hp} {vs : List V} {d e f : PyData} (h : IsAll K L H vs [d, e, f]) : ∃ v w x, vs = [v, w, x] ∧ Is K L H v d ∧ Is K L H w e ∧ Is K L H x f := by
  cases h with
  | cons h1 h2 =>
    obtain ⟨w, x, rfl, h3, h4⟩ := h2.two
    exact ⟨_, w, x, rfl, h1, h3, h4⟩
theorem gi_range3 {X : Cx} {cl : Ex → Addr} {W : WX} {a b c tg : Expr} {fa : Rho → M (List PyData)} {p pos : Pos} (hm : X.mg "range" = none) (ha : GA X cl W [a, b, c] fa) (hg : Gl X "range" := by rfl) (hs : starEach [a, b, c] X.env = (false, eval a X.env) :: starEach [b, c] X.env := by rfl) (hpl : (backTo pos (starEach [b, c] X.env)).any (·.1) = false := by rfl) :
    GI X cl W tg (.Call (.Name "range" p) [a, b, c] [] pos) (mRng3 fa) := by
  obtain ⟨ta, p1, d1⟩ := ha
  refine ⟨_, pi_range3 hg hm p1 hs hpl, fun {Hb L0 α ρ σ H} E hne R hq hr => d1 E (bnd_ne hne) _ ⟨fun ds vs H1 e1 s1 i1 => ?_, fun n H1 e1 s1 => hr n H1 (bnd_raise e1) s1⟩⟩
  have n1 := bnd_at hne e1
  have q1 : mRng3 fa ρ = _ := bnd_eq e1
  split at n1
  · rename_i i j k
    obtain ⟨⟨c1, c2, c3, c4⟩, c5⟩ := if_inv n1
    obtain ⟨v, w, x, rfl, iv, iw, ix⟩ := i1.three
    cases iv
    cases iw
    cases ix
    exact ⟨i, j, k, _, rfl, ⟨by omega, by omega, c3, c4.symm⟩, hq _ _ H1 (q1.trans c5) s1 itd_rangeC⟩
  · exact absurd rfl n1
theorem rng3_of {fa : Rho → M (List PyData)} {ρ : Rho} {i j c : Int} (h : fa ρ = ret [.int i, .int j, .int c]) (hc : 0 < c ∧ c < 1000000) (hi : 0 ≤ i ∧ i < 1000000) (hj : 0 ≤ j ∧ j < 1000000) :
    ∃ n : Nat, mRng3 fa ρ = ret ((List.range n).map fun k : Nat => PyData.int (i + (k : Int) * c)) ∧ (∀ k : Nat, k < n → i + (k : Int) * c < j) ∧ n ≤ (j - i).toNat := by
  have hr : Builtin.Range.rangeSize i j c = if i < j then (j - i - 1) / c + 1 else 0 := by
    unfold Builtin.Range.rangeSize
    rw [if_pos (show c > 0 from hc.1)]
  have hb : 0 ≤ Builtin.Range.rangeSize i j c ∧ Builtin.Range.rangeSize i j c ≤ 1000000 := by
    rw [hr]
    split
    · have q1 : 0 ≤ (j - i - 1) / c := Int.ediv_nonneg (by omega) (by omega)
      have q2 : (j - i - 1) / c ≤ j - i - 1 := Int.ediv_le_self _ (by omega)
      omega
    · omega
  have hf : ∀ x : Int, -2000000 ≤ x → x ≤ 3000000 → Builtin.Range.rangeFitsLong x = true := fun x h1 h2 => by
    unfold Builtin.Range.rangeFitsLong
    simp
    omega
  have hs : Builtin.Range.small i j c = true := by
    unfold Builtin.Range.small
    rw [hf i (by omega) (by omega), hf j (by omega) (by omega), hf c (by omega) (by omega), hf _ (by omega) (by omega), if_pos (show c > 0 from hc.1), hf (j + (c - 1)) (by omega) (by omega)]
    simp
  refine ⟨(Builtin.Range.rangeSize i j c).toNat, ?_, fun k hk => ?_, ?_⟩
  · unfold mRng3
    rw [h, bnd_ret]
    dsimp only
    rw [if_pos ⟨hc.1, hc.2, hs, Int.toNat_of_nonneg hb.1⟩]
  · rw [hr] at hk
    split at hk
    · have q : (k : Int) ≤ (j - i - 1) / c := by omega
      have q2 := Int.mul_le_of_le_ediv hc.1 q
      omega
    · simp at hk
  · rw [hr]
    split
    · have q2 : (j - i - 1) / c ≤ j - i - 1 := Int.ediv_le_self _ (by omega)
      omega
    · omega
end VW
/-! try / except: a body that stores nothing, a suite that only asks what the exception is. -/
namespace VW
open PySem PySem.Spec PyProof.Rows L2
/-! ### a body in any context -/
def tcS (fr : Md) (K : PySem.W.Frag) (cl : Ex → Addr) (W : WX) (ts : List Nat) (s : Rho → M Out) : TS := fun D σ H => ∃ Hb L0 α ρ, Env K Hb L0 α ρ σ H ∧ (∀ a, L0 a → Hb a ≠ none) ∧ s ρ ≠ none ∧ PostS K cl W fr true ts Hb L0 α ρ σ H (s ρ) D
theorem GSs.can {fr : Md} {X : Cx} {cl : Ex → Addr} {W : WX} {ts : List Nat} {sts : List Stmt} {s : Rho → M Out} (h : GSs X cl W fr true ts sts s) : PSs X sts (tcS fr X.K cl W ts s) := by
  obtain ⟨tr, p, d⟩ := h
  exact ⟨fun pins s σ H D I ⟨Hb, L0, α, ρ, E, l0, hne, hq⟩ => p.run pins s σ H D I (d E l0 hne D hq)⟩
/-! ### tests of the exception at a, in slot i -/
structure CE (X : Cx) (i : Nat) (a : Addr) (e : Expr) (b : Bool) : Prop where
  ex : ∃ te, PE X e te ∧ ∀ (σ : L2.St) (H : Hp) (Q : VK), σ[i]? = some (some (.ref a)) → (∀ H', Same H H' → Q (.bl b) H') → te σ H Q
structure CT (X : Cx) (i : Nat) (a : Addr) (e : Expr) (b : Bool) : Prop where
  ex : ∃ tt, PT X e tt ∧ ∀ (σ : L2.St) (H : Hp) (Q : Bool → Hp → Prop), σ[i]? = some (some (.ref a)) → (∀ H', Same H H' → Q b H') → tt σ H Q
structure CW (X : Cx) (i : Nat) (a : Addr) (e : Expr) (b : Bool) : Prop where
  ex : ∃ tt, PW X e tt ∧ ∀ (σ : L2.St) (H : Hp) (Q : Bool → Hp → Prop), σ[i]? = some (some (.ref a)) → (∀ H', Same H H' → Q b H') → tt σ H Q
section
variable {X : Cx} {i : Nat} {a : Addr} {e f : Expr} {b c : Bool} {rest : List Expr} {pos p pT : Pos}
theorem ct_val (h : CE X i a e b) (he : ∀ whole, isTrue e X.env whole = (do let v ← whole; standAt e.pos; holding [v] (truthy v)) := by intro _; rfl) : CT X i a e b :=
  let ⟨_, p1, d1⟩ := h
  ⟨_, pt_val p1 he, fun σ H Q hs hq => d1 σ H _ hs fun H' s' => ⟨b, rfl, hq H' s'⟩⟩
theorem CW.t (h : CW X i a e b) : CT X i a e b := let ⟨_, p1, d1⟩ := h; ⟨_, p1.pt, d1⟩
theorem cw_or1 (h : CT X i a e b) : CW X i a (.BoolOp .Or [e] pos) b := let ⟨_, p1, d1⟩ := h; ⟨_, pw_or1 p1, d1⟩
theorem cw_and1 (h : CT X i a e b) : CW X i a (.BoolOp .And [e] pos) b := let ⟨_, p1, d1⟩ := h; ⟨_, pw_and1 p1, d1⟩
theorem cw_or (h : CT X i a e b) (h2 : CW X i a (.BoolOp .Or (f :: rest) pos) c) : CW X i a (.BoolOp .Or (e :: f :: rest) pos) (b || c) := by
  obtain ⟨_, p1, d1⟩ := h
  obtain ⟨_, p2, d2⟩ := h2
  refine ⟨_, pw_or p1 p2, fun σ H Q hs hq => d1 σ H _ hs fun H' s' => ?_⟩
  cases b with
  | true => exact hq H' s'
  | false => exact d2 σ H' Q hs fun H2 s2 => hq H2 (s'.trans s2)
theorem cw_and (h : CT X i a e b) (h2 : CW X i a (.BoolOp .And (f :: rest) pos) c) : CW X i a (.BoolOp .And (e :: f :: rest) pos) (b && c) := by
  obtain ⟨_, p1, d1⟩ := h
  obtain ⟨_, p2, d2⟩ := h2
  refine ⟨_, pw_and p1 p2, fun σ H Q hs hq => d1 σ H _ hs fun H' s' => ?_⟩
  cases b with
  | false => exact hq H' s'
  | true => exact d2 σ H' Q hs fun H2 s2 => hq H2 (s'.trans s2)
theorem ce_one {op} (h : CE X i a e b) : CE X i a (.BoolOp op [e] pos) b := let ⟨_, p1, d1⟩ := h; ⟨_, pe_one p1, d1⟩
theorem ce_and (h : CE X i a e b) (h2 : CE X i a (.BoolOp .And (f :: rest) pos) c) : CE X i a (.BoolOp .And (e :: f :: rest) pos) (b && c) := by
  obtain ⟨_, p1, d1⟩ := h
  obtain ⟨_, p2, d2⟩ := h2
  refine ⟨_, pe_and p1 p2, fun σ H Q hs hq => d1 σ H _ hs fun H' s' => ⟨b, rfl, ?_⟩⟩
  cases b with
  | false => exact hq H' s'
  | true => exact d2 σ H' Q hs fun H2 s2 => hq H2 (s'.trans s2)
end
/-- isinstance(e, C) in the suite: C of the program's own, or a built-in -/
theorem ce_isOwn {X : Cx} {i : Nat} {a D C : Addr} {oe : Obj} {pn : List (Addr × Obj)} {b : Bool} {n x : Str} {p pe pC pos : Pos} (hD : ExcC X.K D) (hz : Zc (.ref D) none oe) (hf : ∃ vs, oe.data = .fields vs) (hk : PySem.W.kitOne X.K (.ref D) (.ref C) = some b)
    (hm : X.mg "isinstance" = none) (hC : X.mg x = some (.ref C)) (hN : X.N[i]? = some n := by rfl) (hv : Vis X.env.scope n := by first | exact Or.inl rfl | exact Or.inr (Or.inl rfl) | exact Or.inr (Or.inr rfl)) (hd : (n == ("__debug__" : Str)) = false := by decide) (hcd : (n == ("__classdict__" : Str)) = false := by decide)
    (hg : Gl X "isinstance" := by rfl) (hgC : Gl X x := by rfl) (hdC : (x == ("__debug__" : Str)) = false := by decide)
    (he : starEach [.Name n pe, .Name x pC] (X.suite a ((a, oe) :: pn)).env = (false, eval (.Name n pe) (X.suite a ((a, oe) :: pn)).env) :: starEach [.Name x pC] (X.suite a ((a, oe) :: pn)).env := by rfl) (he2 : starEach [.Name x pC] (X.suite a ((a, oe) :: pn)).env = (false, eval (.Name x pC) (X.suite a ((a, oe) :: pn)).env) :: starEach [] (X.suite a ((a, oe) :: pn)).env := by rfl) (hpl : (backTo pos (starEach [.Name x pC] (X.suite a ((a, oe) :: pn)).env)).any (·.1) = false := by rfl) :
    CE (X.suite a ((a, oe) :: pn)) i a (.Call (.Name "isinstance" p) [.Name n pe, .Name x pC] [] pos) b := by
  refine ⟨_, pe_callB (call_isE hD hz hf) hg hm (by decide +kernel) (pa_cons (pe_var hN hv hd hcd) (pa_cons (pe_glob (v := .ref C) hgC hC rfl hdC) pa_nil he2) he) (by decide) (by decide) he hpl, fun σ H Q hs hq => ?_⟩
  exact ⟨.ref a, hs, .ref C, .ref C, b, rfl, fun u h => h, hk, hq H (Same.refl H)⟩
theorem ce_isBlt {X : Cx} {i : Nat} {a D : Addr} {oe : Obj} {pn : List (Addr × Obj)} {b : Bool} {T : String} {n x : Str} {p pe pC pos : Pos} (hD : ExcC X.K D) (hz : Zc (.ref D) none oe) (hf : ∃ vs, oe.data = .fields vs) (hk : PySem.W.kitOne X.K (.ref D) (.type T) = some b)
    (hm : X.mg "isinstance" = none) (hC : X.mg x = none) (hvT : bootBuiltins x = some (.type T)) (hN : X.N[i]? = some n := by rfl) (hv : Vis X.env.scope n := by first | exact Or.inl rfl | exact Or.inr (Or.inl rfl) | exact Or.inr (Or.inr rfl)) (hd : (n == ("__debug__" : Str)) = false := by decide) (hcd : (n == ("__classdict__" : Str)) = false := by decide)
    (hg : Gl X "isinstance" := by rfl) (hgC : Gl X x := by rfl) (hnC : x ≠ "__name__" := by decide) (hdC : (x == ("__debug__" : Str)) = false := by decide)
    (he : starEach [.Name n pe, .Name x pC] (X.suite a ((a, oe) :: pn)).env = (false, eval (.Name n pe) (X.suite a ((a, oe) :: pn)).env) :: starEach [.Name x pC] (X.suite a ((a, oe) :: pn)).env := by rfl) (he2 : starEach [.Name x pC] (X.suite a ((a, oe) :: pn)).env = (false, eval (.Name x pC) (X.suite a ((a, oe) :: pn)).env) :: starEach [] (X.suite a ((a, oe) :: pn)).env := by rfl) (hpl : (backTo pos (starEach [.Name x pC] (X.suite a ((a, oe) :: pn)).env)).any (·.1) = false := by rfl) :
    CE (X.suite a ((a, oe) :: pn)) i a (.Call (.Name "isinstance" p) [.Name n pe, .Name x pC] [] pos) b := by
  refine ⟨_, pe_callB (call_isE hD hz hf) hg hm (by decide +kernel) (pa_cons (pe_var hN hv hd hcd) (pa_cons (pe_bltn (v := .ty T) hgC hC hvT rfl hnC hdC) pa_nil he2) he) (by decide) (by decide) he hpl, fun σ H Q hs hq => ?_⟩
  exact ⟨.ref a, hs, .ty T, .type T, b, rfl, fun u h => h, hk, hq H (Same.refl H)⟩
/-! ### suites: a value, or on -/
def Is0 (v : V) (z : PyData) : Prop := ∀ K L H, Is K L H v z
def OutS (o : Option PyData) (H : Hp) (D : Ends) (σ : L2.St) : Prop := match o with
  | none => ∀ H', Same H H' → D.nx σ H'
  | some z => ∀ v H', Same H H' → Is0 v z → D.rt v H'
structure CS (X : Cx) (i : Nat) (a : Addr) (st : Stmt) (o : Option PyData) : Prop where
  ex : ∃ tr, PS X st tr ∧ ∀ (σ : L2.St) (H : Hp) (D : Ends), σ[i]? = some (some (.ref a)) → OutS o H D σ → tr D σ H
structure CSs (X : Cx) (i : Nat) (a : Addr) (st : List Stmt) (o : Option PyData) : Prop where
  ex : ∃ tr, PSs X st tr ∧ ∀ (σ : L2.St) (H : Hp) (D : Ends), σ[i]? = some (some (.ref a)) → OutS o H D σ → tr D σ H
theorem OutS.same {o : Option PyData} {H H' : Hp} {D : Ends} {σ : L2.St} (h : OutS o H D σ) (s : Same H H') : OutS o H' D σ := by
  cases o with
  | none => exact fun H2 s2 => h H2 (s.trans s2)
  | some z => exact fun v H2 s2 => h v H2 (s.trans s2)
section
variable {X : Cx} {i : Nat} {a : Addr} {c e : Expr} {b : Bool} {st : Stmt} {sts th el : List Stmt} {o o2 : Option PyData} {z : PyData} {pos p : Pos} {j : Nat} {x : Str}
theorem css_nil : CSs X i a [] none := ⟨_, pss_nil, fun σ H D _ hq => hq H (Same.refl H)⟩
theorem css_one (h : CS X i a st o) : CSs X i a [st] o := let ⟨_, p1, d1⟩ := h; ⟨_, pss_one p1, d1⟩
/-- what comes of one statement, then the others -/
def thenS (o o2 : Option PyData) : Option PyData := match o with
  | none => o2
  | some z => some z
theorem css_cons (h : CS X i a st o) (h2 : CSs X i a sts o2) : CSs X i a (st :: sts) (thenS o o2) := by
  obtain ⟨_, p1, d1⟩ := h
  obtain ⟨_, p2, d2⟩ := h2
  refine ⟨_, pss_cons p1 p2, fun σ H D hs hq => d1 σ H _ hs ?_⟩
  cases o with
  | none => exact fun H' s' => d2 σ H' D hs (OutS.same hq s')
  | some z => exact hq
theorem cs_if (hc : CT X i a c b) (h1 : CSs X i a th o) (h2 : CSs X i a el o2) : CS X i a (.If c th el pos) (if b then o else o2) := by
  obtain ⟨_, p0, d0⟩ := hc
  obtain ⟨_, p1, d1⟩ := h1
  obtain ⟨_, p2, d2⟩ := h2
  refine ⟨_, ps_if p0 p1 p2, fun σ H D hs hq => d0 σ H _ hs fun H' s' => ?_⟩
  cases b with
  | true => exact d1 σ H' D hs (OutS.same hq s')
  | false => exact d2 σ H' D hs (OutS.same hq s')
theorem cs_retB (h : CE X i a e b) : CS X i a (.Return (some e) pos) (some (.bool b)) := by
  obtain ⟨_, p1, d1⟩ := h
  exact ⟨_, ps_ret p1, fun σ H D hs hq => d1 σ H _ hs fun H' s' => hq _ H' s' fun _ _ _ => .bl b⟩
theorem cs_retC : CS X i a (.Return (some (.Constant (.bool b) j p)) pos) (some (.bool b)) := ⟨_, ps_ret pe_bl, fun σ H D hs hq => hq _ H (Same.refl H) fun _ _ _ => .bl b⟩
theorem cs_retS : CS X i a (.Return (some (.Constant (.str x) j p)) pos) (some (.str x)) := ⟨_, ps_ret pe_str, fun σ H D hs hq => hq _ H (Same.refl H) fun _ _ _ => .str x⟩
end
theorem CSs.to {X : Cx} {i : Nat} {a : Addr} {st : List Stmt} {o o' : Option PyData} (h : CSs X i a st o) (e : o = o') : CSs X i a st o' := e ▸ h
/-! ### facts of classes -/
theorem cls_isSome {K : PySem.W.Frag} {C : Addr} (h : PySem.W.hasDictIn K C = true) : (PySem.W.clsIn K C).isSome = true := by
  obtain ⟨cd, hc, _⟩ := PySem.W.any_some h
  rw [hc]
  rfl
theorem kit_own {K : PySem.W.Frag} {D C : Addr} {b : Bool} (hd : PySem.W.hasDictIn K C = true) (ht : PySem.W.typeIn K (.ref C) = some (.type "type")) (hs : PySem.W.subIn K (.ref D) (.ref C) = some b) (h : b = true ∨ D ≠ C) : PySem.W.kitOne K (.ref D) (.ref C) = some b := by
  have e : PySem.W.kitCls K (.ref D) (.ref C) = some b := by
    have e2 : ((PySem.W.clsIn K C).isSome && PySem.W.typeIn K (.ref C) == some (.type "type")) = true := by rw [cls_isSome hd, ht] <;> rfl
    show (if ((PySem.W.clsIn K C).isSome && PySem.W.typeIn K (.ref C) == some (.type "type")) = true then PySem.W.subIn K (.ref D) (.ref C) else none) = some b
    rw [if_pos e2]
    exact hs
  unfold PySem.W.kitOne
  by_cases c : ((Value.ref D) == (Value.ref C)) = true
  · rw [if_pos c]
    rcases h with rfl | h
    · rfl
    · have := beq_iff_eq.mp c
      injection this with this
      exact absurd this h
  · rw [if_neg c]
    exact e
theorem kit_blt {K : PySem.W.Frag} {D : Addr} {T : String} {b : Bool} (hm : PySem.W.kitMeta T = true) (hs : PySem.W.subIn K (.ref D) (.type T) = some b) : PySem.W.kitOne K (.ref D) (.type T) = some b := by
  unfold PySem.W.kitOne
  have c : ¬ ((Value.ref D) == (Value.type T)) = true := fun z => by
    have := beq_iff_eq.mp z
    cases this
  rw [if_neg c]
  show (if PySem.W.kitMeta T = true then PySem.W.subIn K (.ref D) (.type T) else none) = some b
  rw [if_pos hm]
  exact hs
end VW
namespace VW
open PySem PySem.Spec PyProof.Rows L2
/-- try: s except .. as (slot i): by what g says of each kind; m slots -/
def sTry (i m : Nat) (g : Ex → Option (Option PyData)) (s : Rho → M Out) : Rho → M Out := fun ρ => match s ρ with
  | some (.ok o) => ret o
  | some (.er n) => (match g n with
    | some o => if i < ρ.length ∧ ρ.length ≤ m ∧ plainAt ρ i = true then (match o with
      | some z => ret (.rt z)
      | none => ret (.nx (wipeR ρ [i]))) else none
    | none => none)
  | none => none
def tsX (cl : Ex → Addr) (i : Nat) (g : Ex → Option (Option PyData)) (a : Addr) (cls : Value) (d : Option Addr) : TS := fun D σ H => ∃ n o, cls = .ref (cl n) ∧ d = none ∧ g n = some o ∧ σ[i]? = some (some (.ref a)) ∧ OutS o H D σ
theorem retOk_is0 {fr : Md} {K : PySem.W.Frag} {Hb H' : Hp} {L0 : Own} {v : V} {z : PyData} (hfr : fr ≠ .fr) (s : Same Hb H') (h : Is0 v z) : RetOk fr K Hb L0 H' v z := by
  cases fr with
  | pl => exact ⟨s, h _ _ _⟩
  | fr => exact absurd rfl hfr
  | dp =>
    refine ⟨s, [], fun a m => (nomatch m), ?_⟩
    rcases slOf_cases z with e | ⟨dss, rfl, _⟩
    · rw [e]
      exact ⟨rfl, h _ _ _⟩
    · have q := h K (fun _ => True) H'
      cases q with
      | lst n _ _ => exact absurd trivial n
theorem gs_tryAs {X : Cx} {cl : Ex → Addr} {W : WX} {fr : Md} {pu : Bool} {ts : List Nat} {body suite : List Stmt} {b₀ : Stmt} {s : Rho → M Out} {x n : Str} {c : Value} {np pos pos' : Pos} (i m : Nat) (g : Ex → Option (Option PyData))
    (hN : X.N.Nodup) (tk : Takes X W) (hc : Names X x c) (hx : ∀ n o, g n = some o → PySem.W.exmOne X.K (.ref (cl n)) c = some true)
    (hb : ∀ (W' : WX) (pn : List (Addr × Obj)) (xe : Value → Shared → Prop), Takes (X.tr pn xe) W' → PassesOwn (model X.prog X.w) X.A X.env xe → GSs (X.tr pn xe) cl W' fr true ts body s)
    (hcs : ∀ (n : Ex) (o : Option PyData) (a : Addr) (oe : Obj) (pn : List (Addr × Obj)), g n = some o → Zc (.ref (cl n)) none oe → (∃ vs, oe.data = .fields vs) → CSs (X.suite a ((a, oe) :: pn)) i a (b₀ :: suite) o)
    (hfr : fr ≠ .fr := by decide) (hs : X.stack = X.env :: X.outer := by rfl) (hf : X.env.frame = some X.env.locals := by rfl) (hi : X.N[i]? = some n := by rfl) (hln : X.env.kindOf n = some .local := by rfl) :
    GS X cl W fr pu (ts ++ List.range m) (.Try body [.ExceptHandler (some (.Name x np)) (some n) (b₀ :: suite) pos'] [] [] pos) (sTry i m g s) := by
  refine ⟨_, ps_try_as (tb := fun W' => tcS fr X.K cl W' ts s) (ts := tsX cl i g) hs hf hN hi hln hc tk (fun W' pn xe tk' hp => (hb W' pn xe tk' hp).can) (fun a oe cls d pn hz hfl => ⟨fun pins s1 σ H D I ⟨n, o, e1, e2, hg, hs1, hq⟩ => ?_⟩), fun {Hb L0 α ρ σ H} E l0 hne D hq => ?_⟩
  · subst e1 e2
    obtain ⟨tr, p, d⟩ := hcs n o a oe pn hg hz hfl
    exact p.run pins s1 σ H D I (d σ H D hs1 hq)
  · have sne : s ρ ≠ none := fun z => hne (by unfold sTry; rw [z])
    have ok : ∀ o, s ρ = some (.ok o) → sTry i m g s ρ = some (.ok o) := fun o e => by unfold sTry; rw [e]; rfl
    refine ⟨Hb, L0, α, ρ, E, l0, sne, ⟨fun ρ' α' σ' H' e1 E1 k1 => hq.nx ρ' α' σ' H' (ok _ e1) E1 (k1.sub fun _ z => List.mem_append_left _ z), fun ρ' α' σ' H' e1 E1 k1 => hq.bk ρ' α' σ' H' (ok _ e1) E1 (k1.sub fun _ z => List.mem_append_left _ z), fun ρ' α' σ' H' e1 E1 k1 => hq.ct ρ' α' σ' H' (ok _ e1) E1 (k1.sub fun _ z => List.mem_append_left _ z), fun d v H' e1 r1 => hq.rt d v H' (ok _ e1) r1, fun n σ' H' e1 s1 pe => ?_⟩⟩
    obtain ⟨α', E', k'⟩ := pe rfl
    cases hg : g n with
    | none => exact absurd (by unfold sTry; rw [e1]; simp only [hg]) hne
    | some o =>
      have em : sTry i m g s ρ = if i < ρ.length ∧ ρ.length ≤ m ∧ plainAt ρ i = true then (match o with
        | some z => ret (.rt z)
        | none => ret (.nx (wipeR ρ [i]))) else none := by unfold sTry; rw [e1]; simp only [hg]
      rw [em] at hne
      obtain ⟨⟨c1, c2, c3⟩, c4⟩ := if_inv hne
      rw [c4] at em
      refine ⟨true, hx n o hg, fun _ a ha => ⟨n, o, rfl, rfl, hg, List.getElem?_set_self (by rw [← E'.len]; exact c1), ?_⟩, fun z => nomatch z⟩
      cases o with
      | some z => exact fun v H2 s2 hv => hq.rt z v H2 em (retOk_is0 hfr (s1.trans s2) hv)
      | none =>
        intro H2 s2
        show D.nx ((σ'.set i (some (.ref a))).set i none) H2
        rw [List.set_set]
        have E2 := (E'.mono s2).wipe (vs := [i]) (by simp [c3])
        refine hq.nx (wipeR ρ [i]) α' (σ'.set i none) H2 em E2 ⟨k'.trans (Kp.of_same s2), fun j hj => ?_⟩
        have hj2 : ¬ j < m := fun z => hj (List.mem_append_right _ (List.mem_range.mpr z))
        rw [List.getElem?_eq_none (by rw [List.length_set, ← E'.len]; omega), List.getElem?_eq_none (by rw [← E.len]; omega)]
end VW
namespace VW
open PySem PySem.Spec PyProof.Rows L2
def intsOf : List PyData → Option (List Int)
  | [] => some []
  | .int i :: r => (intsOf r).map (i :: ·)
  | _ => none
def maxL : Int → List Int → Int
  | m, [] => m
  | m, x :: r => maxL (if m < x then x else m) r
theorem maxL_ge : ∀ (l : List Int) (m : Int), m ≤ maxL m l ∧ ∀ y ∈ l, y ≤ maxL m l
  | [], m => ⟨Int.le_refl _, fun y hy => nomatch hy⟩
  | x :: r, m => by
    have ih := maxL_ge r (if m < x then x else m)
    have h : m ≤ (if m < x then x else m) ∧ x ≤ (if m < x then x else m) := by split <;> omega
    refine ⟨Int.le_trans h.1 ih.1, fun y hy => ?_⟩
    rcases List.mem_cons.mp hy with rfl | hy
    · exact Int.le_trans h.2 ih.1
    · exact ih.2 y hy
theorem maxL_mem : ∀ (l : List Int) (m : Int), maxL m l = m ∨ maxL m l ∈ l
  | [], m => .inl rfl
  | x :: r, m => by
    rcases maxL_mem r (if m < x then x else m) with h | h
    · by_cases c : m < x
      · rw [if_pos c] at h
        exact .inr (by show maxL (if m < x then x else m) r ∈ x :: r; rw [if_pos c, h]; exact List.mem_cons_self)
      · rw [if_neg c] at h
        exact .inl (by show maxL (if m < x then x else m) r = m; rw [if_neg c, h])
    · exact .inr (List.mem_cons_of_mem _ h)
theorem intsOf_is {K : PySem.W.Frag} {L : Own} {H : Hp} : ∀ {ds : List PyData} {ns : List Int} {vs : List V}, intsOf ds = some ns → IsAll K L H vs ds → vs = ns.map V.int
  | [], ns, vs, h, i => by
    cases i
    cases h
    rfl
  | d :: ds, ns, vs, h, i => by
    cases i with
    | cons i1 i2 =>
      cases d with
      | int k =>
        cases e : intsOf ds with
        | none => simp [intsOf, e] at h
        | some r =>
          simp [intsOf, e] at h
          subst h
          cases i1
          rw [intsOf_is e i2]
          rfl
      | _ => simp [intsOf] at h
def pyMax1 : List PyData → M PyData
  | [d] => match lstOf d with
    | some ds => match intsOf ds with
      | some (x :: r) => ret (.int (maxL x r))
      | _ => none
    | none => none
  | _ => none
theorem ge_max1 {X : Cx} {cl : Ex → Addr} {W : WX} {e : Expr} {fa : Rho → M (List PyData)} {p pos : Pos} (hcalm : X.calm = true) (hm : X.mg "max" = none) (ha : GA X cl W [e] fa) (hg : Gl X "max" := by rfl) (he : starEach [e] X.env = (false, eval e X.env) :: starEach [] X.env := by rfl) : GE X cl W (.Call (.Name "max" p) [e] [] pos) (mCall pyMax1 fa) := by
  refine ge_callB (cr_max hcalm) (fun L H vs ds z hL i hz Q hq => ?_) (fun d n => ?_) hm (by decide +kernel) ha hg (by decide) (by decide) he rfl
  · unfold pyMax1 at hz
    split at hz
    · rename_i d
      cases e1 : lstOf d with
      | none => rw [e1] at hz; cases hz
      | some es =>
        rw [e1] at hz
        dsimp only at hz
        cases e2 : intsOf es with
        | none => rw [e2] at hz; cases hz
        | some ns =>
          rw [e2] at hz
          cases ns with
          | nil => cases hz
          | cons x r =>
            dsimp only at hz
            have e3 := ret_ok hz
            subst e3
            obtain ⟨v, rfl, iv⟩ := i.one
            obtain ⟨a, xs, rfl, h1, h2⟩ := iv.lstK e1
            have e4 := intsOf_is e2 h1
            subst e4
            refine ⟨a, x :: r, rfl, h2 L H (Kp.refl _ _), Nat.succ_pos _, fun m hm1 hm2 => ?_⟩
            have ge := maxL_ge r x
            have em : m = maxL x r := by
              have l1 : m ≤ maxL x r := by
                rcases List.mem_cons.mp hm1 with rfl | hm1
                · exact ge.1
                · exact ge.2 m hm1
              have l2 : maxL x r ≤ m := by
                rcases maxL_mem r x with h | h
                · rw [h]; exact hm2 x List.mem_cons_self
                · exact hm2 _ (List.mem_cons_of_mem _ h)
              omega
            rw [em]
            exact hq _ H (Same.refl H) (.int _)
    · cases hz
  · unfold pyMax1
    split
    · split
      · split
        · exact ret_er
        · exact none_er
      · exact none_er
    · exact none_er
theorem ge_dict0 {X : Cx} {cl : Ex → Addr} {W : WX} {pos : Pos} : GE X cl W (.Dict [] [] pos) (mC (.dict [])) :=
  ⟨_, pe_dnewK, fun {Hb L0 α ρ σ H} E hne Q hq p hp => hq.1 _ (.ref p) _ rfl (Same.new hp) (.dct (fun z => E.dom p z hp) upd_same)⟩
end VW
/-! Lists of lists that one frame alone holds. -/
namespace VW
open PySem PySem.Spec PyProof.Rows L2
theorem Rows.dom {K : PySem.W.Frag} {L : Own} {H : Hp} : ∀ {as : List Addr} {dss : List (List PyData)}, Rows K L H as dss → ∀ a ∈ as, ∃ xs, H a = some (.lst xs)
  | _, _, .nil, _, m => nomatch m
  | _, _, .cons h1 _ h3, a, m => by
    rcases List.mem_cons.mp m with rfl | m
    · exact ⟨_, h1⟩
    · exact Rows.dom h3 a m
theorem SlIs.lists {K : PySem.W.Frag} {L : Own} {H : Hp} {as : List Addr} {v : V} {s : Sl} (h : SlIs K L H as v s) : ∀ a ∈ as, ∃ xs, H a = some (.lst xs) := by
  cases s with
  | imm d => rw [h.1]; exact fun a m => nomatch m
  | own ds =>
    obtain ⟨l, xs, rfl, _, h3, _⟩ := h
    intro a m
    rw [List.mem_singleton.mp m]
    exact ⟨xs, h3⟩
  | deep dss =>
    obtain ⟨l, ls, rfl, _, _, h4, h5⟩ := h
    intro a m
    rcases List.mem_cons.mp m with rfl | m
    · exact ⟨_, h4⟩
    · exact h5.dom a m
theorem SlIs.dom {K : PySem.W.Frag} {L : Own} {H : Hp} {as : List Addr} {v : V} {s : Sl} (h : SlIs K L H as v s) : ∀ a ∈ as, H a ≠ none := fun a m => by
  obtain ⟨xs, e⟩ := h.lists a m
  rw [e]
  exact Option.some_ne_none _
theorem SlIs.anti {K : PySem.W.Frag} {L L' : Own} {H : Hp} {as : List Addr} {v : V} {s : Sl} (k : ∀ a, L' a → L a) (h : SlIs K L H as v s) : SlIs K L' H as v s :=
  h.mv (fun a o n q => ⟨fun z => n (k a z), q⟩) fun _ _ _ q => q
theorem Env.lists {K : PySem.W.Frag} {Hb : Hp} {L0 : Own} {α : Al} {ρ : Rho} {σ : L2.St} {H : Hp} (E : Env K Hb L0 α ρ σ H) {j : Nat} {a : Addr} (m : a ∈ α j) : ∃ xs, H a = some (.lst xs) := by
  by_cases h : ∀ s, ρ[j]? ≠ some (some s)
  · rw [E.no j h] at m
    cases m
  · have ⟨s, hs⟩ : ∃ s, ρ[j]? = some (some s) := Classical.byContradiction fun z => h fun s q => z ⟨s, q⟩
    obtain ⟨v, _, h2⟩ := E.sl j s hs
    exact h2.lists a m
/-! ### expressions that make them -/
def PostD (K : PySem.W.Frag) (cl : Ex → Addr) (W : WX) (L : Own) (σ : L2.St) (H : Hp) (m : M PyData) (Q : VK) : Prop :=
  (∀ d as v H', m = some (.ok d) → (∀ a ∈ as, H a = none) → Same H H' → SlIs K (fun a => L a ∨ a ∈ as) H' as v (slOf d) → Q v H') ∧ (∀ n H', m = some (.er n) → Same H H' → W (.ref (cl n)) none σ H')
def DenD (K : PySem.W.Frag) (cl : Ex → Addr) (W : WX) (te : TE) (f : Rho → M PyData) : Prop := ∀ {Hb L0 α ρ σ H}, Env K Hb L0 α ρ σ H → f ρ ≠ none → ∀ Q : VK, PostD K cl W (Lof L0 α) σ H (f ρ) Q → te σ H Q
structure GD (X : Cx) (cl : Ex → Addr) (W : WX) (e : Expr) (f : Rho → M PyData) : Prop where
  ex : ∃ te, PE X e te ∧ DenD X.K cl W te f
theorem GD.ge {X : Cx} {cl : Ex → Addr} {W : WX} {e : Expr} {f : Rho → M PyData} (h : GD X cl W e f) : GE X cl W e f := by
  obtain ⟨te, p, d⟩ := h
  exact ⟨te, p, fun E hne Q hq => d E hne Q ⟨fun z as v H' e1 n s1 h => hq.1 z v H' e1 s1 (h.thaw (fun a q => .inl q) (fun a m q => E.dom a q (n a m)) (thaw_slOf z)), hq.2⟩⟩
/-! .. read while slot i is given up -/
def atom1 : PyData → Bool
  | .tuple ds => ds.all atom
  | d => atom d
def flatL (d : PyData) : Bool := match slOf d with
  | .deep dss => dss.all fun ds => ds.all atom1
  | _ => atom d
def mFrzD (i : Nat) (f : Rho → M PyData) : Rho → M PyData := fun ρ => bnd (f (frz i ρ)) fun d => if flatL d = true then ret d else none
theorem IsAll.atoms {K : PySem.W.Frag} {L L' : Own} {H : Hp} : ∀ {ds : List PyData} {vs : List V}, IsAll K L H vs ds → ds.all atom = true → IsAll K L' H vs ds
  | _, _, .nil, _ => .nil
  | _, _, .cons h1 h2, e => by
    rw [List.all_cons, Bool.and_eq_true] at e
    exact .cons (h1.atom e.1) (h2.atoms e.2)
theorem Is.flat {K : PySem.W.Frag} {L L' : Own} {H : Hp} {v : V} {d : PyData} (h : Is K L H v d) (e : atom1 d = true) (hl : ∀ a, L' a → L a ∨ ∃ xs, H a = some (.lst xs)) : Is K L' H v d := by
  cases h with
  | non => exact .non
  | bl b => exact .bl b
  | int i => exact .int i
  | str x => exact .str x
  | lst => cases e
  | dct => cases e
  | emp => cases e
  | tdc => cases e
  | scr => cases e
  | tup h1 h2 =>
    refine .tup ?_ (h2.atoms e)
    rcases h1 with ⟨n, q⟩ | h1
    · refine .inl ⟨fun z => ?_, q⟩
      rcases hl _ z with z | ⟨xs, z⟩
      · exact n z
      · rw [q] at z
        cases z
    · exact .inr h1
theorem IsAll.flat {K : PySem.W.Frag} {L L' : Own} {H : Hp} (hl : ∀ a, L' a → L a ∨ ∃ xs, H a = some (.lst xs)) : ∀ {ds : List PyData} {vs : List V}, IsAll K L H vs ds → ds.all atom1 = true → IsAll K L' H vs ds
  | _, _, .nil, _ => .nil
  | _, _, .cons h1 h2, e => by
    rw [List.all_cons, Bool.and_eq_true] at e
    exact .cons (h1.flat e.1 hl) (h2.flat hl e.2)
theorem Rows.flat {K : PySem.W.Frag} {L L' : Own} {H : Hp} (hl : ∀ a, L' a → L a ∨ ∃ xs, H a = some (.lst xs)) : ∀ {as : List Addr} {dss : List (List PyData)}, Rows K L H as dss → (dss.all fun ds => ds.all atom1) = true → Rows K L' H as dss
  | _, _, .nil, _ => .nil
  | _, _, .cons h1 h2 h3, e => by
    rw [List.all_cons, Bool.and_eq_true] at e
    exact .cons h1 (h2.flat hl e.1) (Rows.flat hl h3 e.2)
theorem den_frzD {K : PySem.W.Frag} {cl : Ex → Addr} {W : WX} {te : TE} {f : Rho → M PyData} (i : Nat) (h : DenD K cl W te f) : DenD K cl W te (mFrzD i f) := by
  intro Hb L0 α ρ σ H E hne Q hq
  obtain ⟨α', E', hl⟩ := E.frz i
  refine h E' (bnd_ne hne) Q ⟨fun d as v H1 e1 n1 s1 sl => ?_, fun n H1 e1 s1 => hq.2 n H1 (bnd_raise e1) s1⟩
  have q0 := bnd_at hne e1
  have q1 : mFrzD i f ρ = _ := bnd_eq e1
  obtain ⟨c1, c2⟩ := if_inv q0
  refine hq.1 d as v H1 (q1.trans c2) n1 s1 ?_
  have up : ∀ a, (Lof L0 α a ∨ a ∈ as) → (Lof L0 α' a ∨ a ∈ as) ∨ ∃ xs, H1 a = some (.lst xs) := fun a z => by
    rcases z with (z | ⟨j, z⟩) | z
    · exact .inl (.inl (.inl z))
    · obtain ⟨xs, e⟩ := E.lists z
      exact .inr ⟨xs, s1 _ _ e⟩
    · exact .inl (.inr z)
  unfold flatL at c1
  rcases slOf_cases d with e | ⟨dss, _, e⟩
  · rw [e] at sl c1 ⊢
    exact ⟨sl.1, sl.2.atom c1⟩
  · rw [e] at sl c1 ⊢
    obtain ⟨l, ls, h1, h2, h3, h4, h5⟩ := sl
    exact ⟨l, ls, h1, h2, h3, h4, h5.flat up c1⟩
theorem gd_frz {X : Cx} {cl : Ex → Addr} {W : WX} {e : Expr} {f : Rho → M PyData} (i : Nat) (h : GD X cl W e f) : GD X cl W e (mFrzD i f) :=
  let ⟨te, p, d⟩ := h; ⟨te, p, den_frzD i d⟩
/-! ### statements -/
def sSetD (i : Nat) (f : Rho → M PyData) : Rho → M Out := fun ρ => bnd (f ρ) fun d => ret (.nx (ρ.set i (some (slOf d))))
def immD (d : PyData) : Bool := match slOf d with
  | .imm _ => true
  | _ => false
theorem immD_of {d : PyData} (h : immD d = true) : slOf d = .imm d := by
  rcases slOf_cases d with e | ⟨dss, _, e⟩
  · exact e
  · unfold immD at h
    rw [e] at h
    cases h
def sRetI (f : Rho → M PyData) : Rho → M Out := fun ρ => bnd (f ρ) fun d => if immD d = true then ret (.rt d) else none
def sRetDO (i : Nat) : Rho → M Out := fun ρ => match ρ[i]? with
  | some (some (.deep dss)) => ret (.rt (.list (dss.map PyData.list)))
  | _ => none
section
variable {K : PySem.W.Frag} {Hb : Hp} {L0 : Own} {α : Al} {ρ : Rho} {σ : L2.St} {H H' : Hp}
theorem Env.setSl (E : Env K Hb L0 α ρ σ H) (i : Nat) {as : List Addr} {v : V} {s : Sl} (n : ∀ a ∈ as, H a = none) (s1 : Same H H') (sl : SlIs K (fun a => Lof L0 α a ∨ a ∈ as) H' as v s) :
    Env K Hb L0 (if i < ρ.length then ups α i as else α) (ρ.set i (some s)) (σ.set i (some v)) H' :=
  E.put s1 (fun a m => .inl (n a m)) sl.dom (sl.anti fun a z => Lof.ups_sub z)
/-- what slot i holds is written, or grows -/
theorem Env.mutG (E : Env K Hb L0 α ρ σ H) {i : Nat} {s s0 : Sl} {as : List Addr} {v : V} (e0 : ρ[i]? = some (some s0)) (h1 : σ[i]? = some (some v)) (keep : ∀ a o, a ∉ α i → H a = some o → H' a = some o)
    (hold : ∀ a ∈ α i, a ∈ as) (hn : ∀ a ∈ as, a ∈ α i ∨ H a = none) (sl : SlIs K (Lof L0 (ups α i as)) H' as v s) :
    Env K Hb L0 (ups α i as) (ρ.set i (some s)) σ H' ∧ Kp (Lof L0 α) H (Lof L0 (ups α i as)) H' := by
  have hi : i < ρ.length := (List.getElem?_eq_some_iff.mp e0).1
  have dom' := sl.dom
  have lof : ∀ a, Lof L0 (ups α i as) a → Lof L0 α a ∨ (a ∈ as ∧ H a = none) := fun a z => by
    rcases Lof.ups_sub z with z | z
    · exact .inl z
    · rcases hn a z with q | q
      · exact .inl (.inr ⟨i, q⟩)
      · exact .inr ⟨z, q⟩
  refine ⟨⟨fun a o q => ?_, fun a z => ?_, fun j a m => ?_, fun j k a m1 m2 => ?_, by rw [List.length_set]; exact E.len, fun j t h => ?_, fun j h => ?_⟩, fun a o n q => keep a o (fun m => n (.inr ⟨i, m⟩)) q, fun a z => (lof a z).elim .inl fun q => .inr q.2⟩
  · refine keep a o (fun m => ?_) (E.same a o q)
    rw [(E.new i a m).1] at q
    cases q
  · by_cases m : a ∈ as
    · exact dom' a m
    · rcases lof a z with z | z
      · cases e : H a with
        | none => exact absurd e (E.dom a z)
        | some o =>
          rw [keep a o (fun q => m (hold a q)) e]
          exact Option.some_ne_none _
      · exact absurd z.1 m
  · by_cases hj : j = i
    · subst hj
      rw [ups_same] at m
      rcases hn a m with q | q
      · exact E.new j a q
      · refine ⟨?_, fun z => E.dom a (.inl z) q⟩
        cases r : Hb a with
        | none => rfl
        | some o => rw [E.same a o r] at q; cases q
    · rw [ups_ne hj] at m
      exact E.new j a m
  · have key : ∀ j, j ≠ i → a ∈ α j → a ∈ as → False := fun j hj m1 m2 => by
      rcases hn a m2 with q | q
      · exact hj (E.disj j i a m1 q)
      · exact E.dom a (.inr ⟨j, m1⟩) q
    by_cases hj : j = i
    · by_cases hk : k = i
      · rw [hj, hk]
      · rw [hj, ups_same] at m1
        rw [ups_ne hk] at m2
        exact (key k hk m2 m1).elim
    · by_cases hk : k = i
      · rw [hk, ups_same] at m2
        rw [ups_ne hj] at m1
        exact (key j hj m1 m2).elim
      · rw [ups_ne hj] at m1
        rw [ups_ne hk] at m2
        exact E.disj j k a m1 m2
  · rcases set_get h with ⟨rfl, q, _⟩ | ⟨hj, q⟩
    · cases q
      refine ⟨v, h1, ?_⟩
      rw [ups_same]
      exact sl
    · obtain ⟨w, a1, a2⟩ := E.sl j t q
      refine ⟨w, a1, ?_⟩
      rw [ups_ne hj]
      refine a2.mv (fun a o n q => ⟨fun z => ?_, keep a o (fun m => n (.inr ⟨i, m⟩)) q⟩) fun a m o q => keep a o (fun m2 => hj (E.disj j i a m m2)) q
      rcases lof a z with z | z
      · exact n z
      · rw [z.2] at q
        cases q
  · by_cases hj : j = i
    · exact absurd (List.getElem?_set_self hi) (hj ▸ h s)
    · rw [ups_ne hj]
      refine E.no j fun t q => h t ?_
      rw [List.getElem?_set_ne (Ne.symm hj)]
      exact q
theorem Rows.append : ∀ {as bs : List Addr} {dss ess : List (List PyData)}, Rows K L0 H as dss → Rows K L0 H bs ess → Rows K L0 H (as ++ bs) (dss ++ ess)
  | _, _, _, _, .nil, h => h
  | _, _, _, _, .cons h1 h2 h3, h => .cons h1 h2 (Rows.append h3 h)
theorem Rows.len : ∀ {as : List Addr} {dss : List (List PyData)}, Rows K L0 H as dss → as.length = dss.length
  | _, _, .nil => rfl
  | _, _, .cons _ _ h3 => by rw [List.length_cons, List.length_cons, Rows.len h3]
theorem Rows.get : ∀ {as : List Addr} {dss : List (List PyData)} {j : Nat} {a : Addr}, Rows K L0 H as dss → as[j]? = some a → ∃ xs ds, dss[j]? = some ds ∧ H a = some (.lst xs) ∧ IsAll K L0 H xs ds
  | _, _, _, _, .nil, e => by simp at e
  | _, _, 0, _, .cons h1 h2 h3, e => by
    have e' := Option.some.inj e
    subst e'
    exact ⟨_, _, rfl, h1, h2⟩
  | _, _, j + 1, _, .cons h1 h2 h3, e => Rows.get (j := j) h3 (by simpa using e)
/-- a row is written -/
theorem Rows.wr {L' : Own} {r : Addr} {ys : List V} {es : List PyData} : ∀ {as : List Addr} {dss : List (List PyData)} {j : Nat}, Rows K L' H as dss → as.Nodup → as[j]? = some r → L' r → IsAll K L' H ys es → Rows K L' (upd H r (.lst ys)) as (dss.set j es)
  | _, _, _, .nil, _, e, _, _ => by simp at e
  | a :: as, ds :: dss, 0, .cons h1 h2 h3, nd, e, hr, hy => by
    have e' := Option.some.inj e
    subst e'
    have keep : ∀ b o, ¬ L' b → H b = some o → ¬ L' b ∧ upd H a (.lst ys) b = some o := fun b o n q => ⟨n, by rw [upd_ne (fun z => n (by rw [z]; exact hr))]; exact q⟩
    refine .cons upd_same (hy.mv keep) (h3.mv keep fun b m o q => ?_)
    rw [upd_ne (fun z => (List.nodup_cons.mp nd).1 (by rw [← z]; exact m))]
    exact q
  | a :: as, ds :: dss, j + 1, .cons h1 h2 h3, nd, e, hr, hy => by
    have e' : as[j]? = some r := by simpa using e
    have keep : ∀ b o, ¬ L' b → H b = some o → ¬ L' b ∧ upd H r (.lst ys) b = some o := fun b o n q => ⟨n, by rw [upd_ne (fun z => n (by rw [z]; exact hr))]; exact q⟩
    have ne : a ≠ r := fun z => (List.nodup_cons.mp nd).1 (by rw [z]; exact List.mem_of_getElem? e')
    exact .cons (by rw [upd_ne ne]; exact h1) (h2.mv keep) (Rows.wr h3 (List.nodup_cons.mp nd).2 e' hr hy)
end
section
variable {X : Cx} {cl : Ex → Addr} {W : WX} {fr : Md} {pu : Bool} {e k : Expr} {f g : Rho → M PyData} {fa : Rho → M (List PyData)} {pos : Pos} {x : Str}
theorem den_setD {te : TE} {K : PySem.W.Frag} (i : Nat) (d1 : DenD K cl W te f) : DenS K cl W fr pu [i] (tAsg te (gName i)) (sSetD i f) := by
  intro Hb L0 α ρ σ H E l0 hne D hq
  refine d1 E (bnd_ne hne) _ ⟨fun d as v H1 e1 hn s1 sl => ?_, fun n H1 e1 s1 => hq.er n σ H1 (bnd_raise e1) (E.same.trans s1) fun _ => erE E s1⟩
  exact hq.nx _ _ _ H1 (bnd_eq e1) (E.setSl i hn s1 sl) (Kps.set (Env.kput s1 fun a m => .inl (hn a m)))
theorem gs_setD (i : Nat) {pos' : Pos} (hN : X.N.Nodup) (he : GD X cl W e f) (hi : X.N[i]? = some x := by rfl) (hx : Loc X.env.scope x := by first | exact .inl rfl | exact .inr rfl) (hs : swapsWith e (some (.Name x pos')) pos.line X.env = pure false := by rfl)
    (hf : X.fn x = true ∨ X.env.scope.names.lookup x = some .local := by first | exact .inl rfl | exact .inr rfl) : GS X cl W fr pu [i] (.Assign [.Name x pos'] e pos) (sSetD i f) := by
  obtain ⟨te, p1, d1⟩ := he
  exact ⟨_, ps_set hN hi hx p1 hs hf, den_setD i d1⟩
theorem gs_retD (he : GD X cl W e f) : GS X cl W .dp pu [] (.Return (some e) pos) (sRet f) := by
  obtain ⟨te, p1, d1⟩ := he
  refine ⟨_, ps_ret p1, fun {Hb L0 α ρ σ H} E l0 hne D hq => d1 E (bnd_ne hne) _ ⟨fun d as v H1 e1 hn s1 sl => ?_, fun n H1 e1 s1 => hq.er n σ H1 (bnd_raise e1) (E.same.trans s1) fun _ => erE E s1⟩⟩
  exact hq.rt d v H1 (bnd_eq e1) ⟨E.same.trans s1, as, fun a m => ⟨E.same.free (hn a m), fun z => E.dom a (.inl z) (hn a m)⟩, sl.anti fun a z => z.elim (fun z => .inl (.inl z)) .inr⟩
theorem gs_retI (he : GE X cl W e f) : GS X cl W .dp pu [] (.Return (some e) pos) (sRetI f) := by
  obtain ⟨te, p1, d1⟩ := he
  refine ⟨_, ps_ret p1, fun {Hb L0 α ρ σ H} E l0 hne D hq => d1 E (bnd_ne hne) _ ⟨fun d v H1 e1 s1 i1 => ?_, fun n H1 e1 s1 => hq.er n σ H1 (bnd_raise e1) (E.same.trans s1) fun _ => erE E s1⟩⟩
  have n1 := bnd_at hne e1
  have q1 : sRetI f ρ = _ := bnd_eq e1
  obtain ⟨c1, c2⟩ := if_inv n1
  refine hq.rt d v H1 (q1.trans c2) ⟨E.same.trans s1, [], fun a m => (nomatch m), ?_⟩
  rw [immD_of c1]
  exact ⟨rfl, i1.anti fun a z => .inl (z.elim id fun m => nomatch m)⟩
theorem gs_retDO (i : Nat) {pos' : Pos} (hN : X.N[i]? = some x := by rfl) (hv : Vis X.env.scope x := by first | exact Or.inl rfl | exact Or.inr (Or.inl rfl) | exact Or.inr (Or.inr rfl)) (hd : (x == ("__debug__" : Str)) = false := by decide)
    (hcd : (x == ("__classdict__" : Str)) = false := by decide) : GS X cl W .dp pu [] (.Return (some (.Name x pos')) pos) (sRetDO i) := by
  refine ⟨_, ps_ret (pe_var hN hv hd hcd), fun {Hb L0 α ρ σ H} E l0 hne D hq => ?_⟩
  unfold sRetDO at hne hq
  split at hne
  · rename_i dss e
    obtain ⟨v, h1, h2⟩ := E.sl i (.deep dss) e
    have e' : ρ[i]? = some (some (Sl.deep dss)) := e
    rw [e'] at hq
    refine ⟨v, h1, hq.rt _ v H rfl ⟨E.same, α i, fun a m => E.new i a m, ?_⟩⟩
    rw [slOf_deep]
    exact h2.anti fun a z => z.elim .inl fun z => .inr ⟨i, z⟩
  · exact absurd rfl hne
/-- x.append(e), e a new list -/
def sAppD (i : Nat) (f : Rho → M (List PyData)) : Rho → M Out := fun ρ => match ρ[i]? with
  | some (some (.deep dss)) => bnd (f ρ) fun d => if dss.length < 16777216 then ret (.nx (ρ.set i (some (.deep (dss ++ [d]))))) else none
  | _ => none
theorem gs_appD (i : Nat) {px apos cpos : Pos} (he : GF X cl W e fa) (hN : X.N[i]? = some x := by rfl) (hv : Vis X.env.scope x := by first | exact Or.inl rfl | exact Or.inr (Or.inl rfl) | exact Or.inr (Or.inr rfl)) (hd : (x == ("__debug__" : Str)) = false := by decide)
    (hcd : (x == ("__classdict__" : Str)) = false := by decide)
    (hbase : attributeBase (.Name x px) "append" X.env (eval (.Name x px) X.env) = eval (.Name x px) X.env := by rfl)
    (hfew : ((backTo cpos (starEach [e] X.env)).all (fun x => !x.1) && (backToKw cpos (keywordEach [] X.env)).all (fun x => x.1.isSome)
      && decide (([e] : List Expr).length + ([] : List Keyword).length + (if ([] : List Keyword).isEmpty then 0 else 1) < 30)) = true := by rfl)
    (hline : (apos.endLine == cpos.line) = true := by rfl) (hse : starEach [e] X.env = (false, eval e X.env) :: starEach [] X.env := by rfl)
    (hs : swapsWith (.Call (.Attribute (.Name x px) "append" apos) [e] [] cpos) none pos.line X.env = pure false := by rfl) :
    GS X cl W fr false [] (.Expr (.Call (.Attribute (.Name x px) "append" apos) [e] [] cpos) pos) (sAppD i fa) := by
  obtain ⟨te, p1, d1⟩ := he
  refine ⟨_, ps_expr (pe_bm PySem.F.plainAttrs_list PySem.F.slot_list_append PySem.F.type_list_append mt_append (pe_var hN hv hd hcd) (pa_cons p1 pa_nil hse) hbase hfew hline hse rfl) hs, fun {Hb L0 α ρ σ H} E l0 hne D hq => ?_⟩
  unfold sAppD at hne hq
  split at hne
  · rename_i dss e0
    have e0' : ρ[i]? = some (some (Sl.deep dss)) := e0
    rw [e0'] at hq
    obtain ⟨v, h1, l, ls, h2, nd, rfl, h4, h5⟩ := E.sl i (.deep dss) e0
    refine ⟨.ref l, h1, .inl ⟨rfl, _, SqL.of h4⟩, d1 E (bnd_ne hne) _ ⟨fun ds p xs H1 e1 hp s1 hx i1 => ?_, fun n H1 e1 s1 => hq.er n σ H1 (bnd_raise e1) (E.same.trans s1) fun _ => erE E s1⟩⟩
    have n1 := bnd_at hne e1
    obtain ⟨c1, c2⟩ := if_inv n1
    have q1 := (bnd_eq (k := fun d => if dss.length < 16777216 then ret (Out.nx (ρ.set i (some (.deep (dss ++ [d]))))) else none) e1).trans c2
    have hl := h5.len
    refine ⟨l, ls.map V.ref, .ref p, rfl, rfl, s1 _ _ h4, szl' (by rw [List.length_map]; omega), ?_⟩
    have ml : l ∈ α i := by rw [h2]; exact List.mem_cons_self
    have np : ∀ a ∈ α i, a ≠ p := fun a m z => E.dom a (.inr ⟨i, m⟩) (by rw [z]; exact hp)
    have nlp : l ≠ p := np l ml
    have mls : ∀ a ∈ ls, a ∈ α i := fun a m => by rw [h2]; exact List.mem_cons_of_mem _ m
    have kp : ∀ a o, a ≠ l → H1 a = some o → upd H1 l (.lst (ls.map V.ref ++ [V.ref p])) a = some o := fun a o n q => by rw [upd_ne n]; exact q
    have Lsub : ∀ a, Lof L0 (ups α i (l :: (ls ++ [p]))) a → Lof L0 α a ∨ a = p := fun a z => by
      rcases Lof.ups_sub z with z | z
      · exact .inl z
      · rcases List.mem_cons.mp z with z | z
        · exact .inl (.inr ⟨i, by rw [z]; exact ml⟩)
        · rcases List.mem_append.mp z with z | z
          · exact .inl (.inr ⟨i, mls a z⟩)
          · exact .inr (List.mem_singleton.mp z)
    obtain ⟨E2, k2⟩ := E.mutG (i := i) (as := l :: (ls ++ [p])) (s := .deep (dss ++ [ds])) (v := .ref l) (H' := upd H1 l (.lst (ls.map V.ref ++ [V.ref p]))) e0' h1 (fun a o n q => kp a o (fun z => n (by rw [z]; exact ml)) (s1 a o q))
      (fun a m => by
        rw [h2] at m
        rcases List.mem_cons.mp m with m | m
        · rw [m]; exact List.mem_cons_self
        · exact List.mem_cons_of_mem _ (List.mem_append_left _ m))
      (fun a m => by
        rcases List.mem_cons.mp m with m | m
        · rw [m]; exact .inl ml
        · rcases List.mem_append.mp m with m | m
          · exact .inl (mls a m)
          · rw [List.mem_singleton.mp m]; exact .inr hp)
      ⟨l, ls ++ [p], rfl, by
        have nd2 := List.nodup_cons.mp nd
        refine List.nodup_cons.mpr ⟨fun z => ?_, List.nodup_append.mpr ⟨nd2.2, by simp, fun a m b mb z => ?_⟩⟩
        · rcases List.mem_append.mp z with z | z
          · exact nd2.1 z
          · exact nlp (List.mem_singleton.mp z)
        · rw [List.mem_singleton.mp mb] at z
          exact np a (mls a m) z, rfl, by rw [upd_same, List.map_append]; rfl,
       (h5.mv (fun a o n q => ⟨fun z => (Lsub a z).elim n fun z => (by rw [z, hp] at q; cases q), kp a o (fun z => n (.inr ⟨i, by rw [z]; exact ml⟩)) (s1 a o q)⟩) (fun a m o q => kp a o (fun z => (List.nodup_cons.mp nd).1 (by rw [← z]; exact m)) (s1 a o q))).append
        (.cons (kp p _ (Ne.symm nlp) hx) (i1.mv fun a o n q => ⟨fun z => n (Lsub a z), kp a o (fun z => n (.inl (.inr ⟨i, by rw [z]; exact ml⟩))) q⟩) .nil)⟩
    exact hq.nx _ _ σ _ q1 E2 (Kps.same k2)
  · exact absurd rfl hne
/-- x[k].append(e), e plain -/
def sAppAt (i : Nat) (g f : Rho → M PyData) : Rho → M Out := fun ρ => match ρ[i]? with
  | some (some (.deep dss)) => bnd (g ρ) fun k => match k with
    | .int k => ofO (ixN dss.length k) (fun j => j) |> fun m => bnd m fun j => bnd (f ρ) fun d => if (dss.getD j []).length < 16777216 then ret (.nx (ρ.set i (some (.deep (dss.set j (dss.getD j [] ++ [d])))))) else none
    | _ => none
  | _ => none
end
end VW
namespace VW
open PySem PySem.Spec PyProof.Rows L2
theorem ups_id (α : Al) (i : Nat) : ups α i (α i) = α := by
  funext j
  unfold ups
  split
  · rename_i h
    rw [h]
  · rfl
section
variable {K : PySem.W.Frag} {Hb : Hp} {L0 : Own} {α : Al} {ρ : Rho} {σ : L2.St} {H H' : Hp}
theorem Env.row (E : Env K Hb L0 α ρ σ H) {i : Nat} {dss : List (List PyData)} (e0 : ρ[i]? = some (some (.deep dss))) : ∃ (l : Addr) (ls : List Addr), σ[i]? = some (some (.ref l)) ∧ α i = l :: ls ∧ H l = some (.lst (ls.map V.ref)) ∧ ls.length = dss.length ∧
    ∀ (j : Nat) (r : Addr), ls[j]? = some r → ∃ xs ds, dss[j]? = some ds ∧ H r = some (.lst xs) ∧ IsAll K (Lof L0 α) H xs ds := by
  obtain ⟨v, h1, l, ls, h2, nd, rfl, h4, h5⟩ := E.sl i (.deep dss) e0
  exact ⟨l, ls, h1, h2, h4, h5.len, fun j r e => h5.get e⟩
theorem Env.wrRow (E : Env K Hb L0 α ρ σ H) {i j : Nat} {dss : List (List PyData)} {l r : Addr} {ls : List Addr} {ys : List V} {es : List PyData} (e0 : ρ[i]? = some (some (.deep dss))) (h2 : α i = l :: ls) (hr : ls[j]? = some r) (hy : IsAll K (Lof L0 α) H ys es) :
    Env K Hb L0 α (ρ.set i (some (.deep (dss.set j es)))) σ (upd H r (.lst ys)) ∧ Kp (Lof L0 α) H (Lof L0 α) (upd H r (.lst ys)) := by
  obtain ⟨v, h1, l', ls', h2', nd, rfl, h4, h5⟩ := E.sl i (.deep dss) e0
  rw [h2] at h2'
  injection h2' with e1 e2
  subst e1 e2
  have mr : r ∈ α i := by rw [h2]; exact List.mem_cons_of_mem _ (List.mem_of_getElem? hr)
  have ne : l ≠ r := fun z => (List.nodup_cons.mp nd).1 (by rw [z]; exact List.mem_of_getElem? hr)
  have q := E.mutG (i := i) (as := α i) (s := .deep (dss.set j es)) (v := .ref l) (H' := upd H r (.lst ys)) e0 h1 (fun a o n q => by rw [upd_ne (fun z => n (by rw [z]; exact mr))]; exact q) (fun a m => m) (fun a m => .inl m)
    ⟨l, ls, h2, nd, rfl, by rw [upd_ne ne]; exact h4, by
      rw [ups_id]
      exact h5.wr (List.nodup_cons.mp nd).2 hr (.inr ⟨i, mr⟩) hy⟩
  rw [ups_id] at q
  exact q
/-- an unknown slot -/
theorem Env.forget (E : Env K Hb L0 α ρ σ H) {j : Nat} (h : plainAt ρ j = true) : Env K Hb L0 α (ρ.set j none) σ H := by
  refine ⟨E.same, E.dom, E.new, E.disj, by rw [List.length_set]; exact E.len, fun i s e => ?_, fun i e => ?_⟩
  · rcases set_get e with ⟨_, q, _⟩ | ⟨_, q⟩
    · cases q
    · exact E.sl i s q
  · by_cases hj : i = j
    · rw [hj]
      exact E.plain h
    · refine E.no i fun s q => e s ?_
      rw [List.getElem?_set_ne (Ne.symm hj)]
      exact q
theorem Env.junk (E : Env K Hb L0 α ρ σ H) {j : Nat} {x : Option V} (h : ∀ s, ρ[j]? ≠ some (some s)) : Env K Hb L0 α ρ (σ.set j x) H := by
  refine ⟨E.same, E.dom, E.new, E.disj, by rw [List.length_set]; exact E.len, fun i s e => ?_, E.no⟩
  obtain ⟨v, h1, h2⟩ := E.sl i s e
  refine ⟨v, ?_, h2⟩
  rw [List.getElem?_set_ne fun z => h s (by rw [z]; exact e)]
  exact h1
end
section
variable {X : Cx} {cl : Ex → Addr} {W : WX} {fr : Md} {pu : Bool} {e k : Expr} {f g : Rho → M PyData} {fa : Rho → M (List PyData)} {pos : Pos} {x y : Str}
/-- x[k].append(e), e plain, x a held list of lists -/
def sAppR (i : Nat) (g f : Rho → M PyData) : Rho → M Out := fun ρ => match ρ[i]? with
  | some (some (.deep dss)) => bnd (g ρ) fun k => match k with
    | .int k => match ixN dss.length k with
      | some j => bnd (f ρ) fun d => if (dss.getD j []).length < 16777216 then ret (.nx (ρ.set i (some (.deep (dss.set j (dss.getD j [] ++ [d])))))) else none
      | none => none
    | _ => none
  | _ => none
theorem gs_appR (i : Nat) {px apos cpos six : Pos} (hk : GE X cl W k g) (he : GE X cl W e f) (hN : X.N[i]? = some x := by rfl) (hv : Vis X.env.scope x := by first | exact Or.inl rfl | exact Or.inr (Or.inl rfl) | exact Or.inr (Or.inr rfl)) (hd : (x == ("__debug__" : Str)) = false := by decide)
    (hcd : (x == ("__classdict__" : Str)) = false := by decide) (hpx : PlainIx k := by exact fun _ _ => rfl)
    (hbase : attributeBase (.Subscript (.Name x px) k six) "append" X.env (eval (.Subscript (.Name x px) k six) X.env) = eval (.Subscript (.Name x px) k six) X.env := by rfl)
    (hfew : ((backTo cpos (starEach [e] X.env)).all (fun x => !x.1) && (backToKw cpos (keywordEach [] X.env)).all (fun x => x.1.isSome)
      && decide (([e] : List Expr).length + ([] : List Keyword).length + (if ([] : List Keyword).isEmpty then 0 else 1) < 30)) = true := by rfl)
    (hline : (apos.endLine == cpos.line) = true := by rfl) (hse : starEach [e] X.env = (false, eval e X.env) :: starEach [] X.env := by rfl)
    (hs : swapsWith (.Call (.Attribute (.Subscript (.Name x px) k six) "append" apos) [e] [] cpos) none pos.line X.env = pure false := by rfl) :
    GS X cl W fr false [] (.Expr (.Call (.Attribute (.Subscript (.Name x px) k six) "append" apos) [e] [] cpos) pos) (sAppR i g f) := by
  obtain ⟨te, p1, d1⟩ := he
  obtain ⟨tk, p2, d2⟩ := hk
  refine ⟨_, ps_expr (pe_bm PySem.F.plainAttrs_list PySem.F.slot_list_append PySem.F.type_list_append mt_append (pe_ix ix_list (pe_var hN hv hd hcd) p2 hpx) (pa_cons p1 pa_nil hse) hbase hfew hline hse rfl) hs, fun {Hb L0 α ρ σ H} E l0 hne D hq => ?_⟩
  unfold sAppR at hne hq
  split at hne
  · rename_i dss e0
    have e0' : ρ[i]? = some (some (Sl.deep dss)) := e0
    rw [e0'] at hq
    obtain ⟨l, ls, h1, h2, h4, hl, hrow⟩ := E.row e0
    refine ⟨.ref l, h1, d2 E (bnd_ne hne) _ ⟨fun z v H1 e1 s1 i1 => ?_, fun n H1 e1 s1 => hq.er n σ H1 (bnd_raise e1) (E.same.trans s1) fun _ => erE E s1⟩⟩
    have n1 := bnd_at hne e1
    have q1 := bnd_eq (k := fun k => match k with
      | PyData.int k => match ixN dss.length k with
        | some j => bnd (f ρ) fun d => if (dss.getD j []).length < 16777216 then ret (Out.nx (ρ.set i (some (.deep (dss.set j (dss.getD j [] ++ [d])))))) else none
        | none => none
      | _ => none) e1
    cases z with
    | int z =>
      cases ej : ixN dss.length z with
      | none =>
        simp only [ej] at n1
        exact absurd rfl n1
      | some j =>
        simp only [ej] at q1 n1
        have hj := (ixN_seq ej).2.1
        have hjl : j < ls.length := by omega
        obtain ⟨xs, ds, r1, r2, r3⟩ := hrow j ls[j] (List.getElem?_eq_getElem hjl)
        have hg : dss.getD j [] = ds := by rw [List.getD_eq_getElem?_getD, r1]; rfl
        rw [hg] at n1 q1
        refine ⟨l, ls.map V.ref, z, .ref ls[j], rfl, i1.intD, SqL.of (s1 _ _ h4), ?_, ?_⟩
        · unfold L2.atI
          rw [List.length_map, hl, ej]
          show (ls.map V.ref)[j]? = _
          rw [List.getElem?_map, List.getElem?_eq_getElem hjl]
          rfl
        · refine ⟨.inl ⟨rfl, _, SqL.of (s1 _ _ r2)⟩, d1 (E.mono s1) (bnd_ne n1) _ ⟨fun d w H2 e2 s2 i2 => ?_, fun n H2 e2 s2 => hq.er n σ H2 (q1.trans (bnd_raise e2)) (E.same.trans (s1.trans s2)) fun _ => erE E (s1.trans s2)⟩⟩
          have n2 := bnd_at n1 e2
          obtain ⟨c1, c2⟩ := if_inv n2
          have q2 := (q1.trans (bnd_eq (k := fun d => if ds.length < 16777216 then ret (Out.nx (ρ.set i (some (.deep (dss.set j (ds ++ [d])))))) else none) e2)).trans c2
          have s12 := s1.trans s2
          refine ⟨ls[j], xs, w, rfl, rfl, s12 _ _ r2, szl' (by rw [r3.len]; exact c1), ?_⟩
          obtain ⟨E2, k2⟩ := (E.mono s12).wrRow e0' h2 (List.getElem?_eq_getElem hjl) ((r3.same s12).append (.cons i2 .nil))
          exact hq.nx _ α σ _ q2 E2 (Kps.same ((Kp.of_same s12).trans k2))
    | _ => exact absurd rfl n1
  · exact absurd rfl hne
/-- for y in x: y.append(e), x a held list of lists, e the same each time -/
def sForApp (i j : Nat) (d : PyData) : Rho → M Out := fun ρ => match ρ[i]? with
  | some (some (.deep dss)) => if plainAt ρ j = true ∧ (j ≠ i ∧ j < ρ.length) ∧ (dss.all fun r => decide (r.length < 16777216)) = true then ret (.nx ((ρ.set j none).set i (some (.deep (dss.map fun r => r ++ [d]))))) else none
  | _ => none
def appN (d : PyData) (k : Nat) (dss : List (List PyData)) : List (List PyData) := (dss.take k).map (fun r => r ++ [d]) ++ dss.drop k
theorem appN_get {d : PyData} {k : Nat} {dss : List (List PyData)} (h : k < dss.length) : (appN d k dss)[k]? = some dss[k] := by
  unfold appN
  rw [List.getElem?_append_right (by rw [List.length_map, List.length_take]; omega), List.length_map, List.length_take, show k - min k dss.length = 0 by omega, List.getElem?_drop, Nat.add_zero, List.getElem?_eq_getElem h]
theorem appN_set {d : PyData} {k : Nat} {dss : List (List PyData)} (h : k < dss.length) : (appN d k dss).set k (dss[k] ++ [d]) = appN d (k + 1) dss := by
  unfold appN
  have hl : ((dss.take k).map fun r => r ++ [d]).length = k := by rw [List.length_map, List.length_take]; omega
  rw [List.set_append_right _ _ (by omega), hl, Nat.sub_self, List.drop_eq_getElem_cons h, List.set_cons_zero, List.take_succ_eq_append_getElem h, List.map_append, List.append_assoc]
  rfl
theorem appN_len {d : PyData} {k : Nat} {dss : List (List PyData)} : (appN d k dss).length = dss.length := by
  unfold appN
  rw [List.length_append, List.length_map, List.length_take, List.length_drop]
  omega
theorem gs_forApp (i j : Nat) {d : PyData} {px py py2 apos cpos epos : Pos} (hp : PassesOwn (model X.prog X.w) X.A X.env X.xe) (hc : X.calm = true) (hND : X.N.Nodup) (he : GE X cl W e f) (hf0 : ∀ ρ, f ρ = ret d)
    (hN : X.N[i]? = some x := by rfl) (hv : Vis X.env.scope x := by first | exact Or.inl rfl | exact Or.inr (Or.inl rfl) | exact Or.inr (Or.inr rfl)) (hd : (x == ("__debug__" : Str)) = false := by decide)
    (hcd : (x == ("__classdict__" : Str)) = false := by decide)
    (hN2 : X.N[j]? = some y := by rfl) (hv2 : Vis X.env.scope y := by first | exact Or.inl rfl | exact Or.inr (Or.inl rfl) | exact Or.inr (Or.inr rfl)) (hd2 : (y == ("__debug__" : Str)) = false := by decide)
    (hcd2 : (y == ("__classdict__" : Str)) = false := by decide) (hy2 : Loc X.env.scope y := by first | exact .inl rfl | exact .inr rfl) (hf : X.fn y = true ∨ X.env.scope.names.lookup y = some .local := by first | exact .inl rfl | exact .inr rfl)
    (hfold : ∀ z, foldedSetIterable (.Name x px) X.env z = pure z := by intro _; rfl)
    (hbase : attributeBase (.Name y py2) "append" X.env (eval (.Name y py2) X.env) = eval (.Name y py2) X.env := by rfl)
    (hfew : ((backTo cpos (starEach [e] X.env)).all (fun x => !x.1) && (backToKw cpos (keywordEach [] X.env)).all (fun x => x.1.isSome)
      && decide (([e] : List Expr).length + ([] : List Keyword).length + (if ([] : List Keyword).isEmpty then 0 else 1) < 30)) = true := by rfl)
    (hline : (apos.endLine == cpos.line) = true := by rfl) (hse : starEach [e] X.env = (false, eval e X.env) :: starEach [] X.env := by rfl)
    (hs : swapsWith (.Call (.Attribute (.Name y py2) "append" apos) [e] [] cpos) none epos.line X.env = pure false := by rfl) :
    GS X cl W fr false [j] (.For (.Name y py) (.Name x px) [.Expr (.Call (.Attribute (.Name y py2) "append" apos) [e] [] cpos) epos] [] pos) (sForApp i j d) := by
  obtain ⟨te, p1, d1⟩ := he
  refine ⟨_, ps_for hp hc (pi_list (pe_var hN hv hd hcd)) (pg_name hND hN2 hy2 hf) (pss_one (ps_expr (pe_bm PySem.F.plainAttrs_list PySem.F.slot_list_append PySem.F.type_list_append mt_append (pe_var hN2 hv2 hd2 hcd2) (pa_cons p1 pa_nil hse) hbase hfew hline hse rfl) hs)) hfold, fun {Hb L0 α ρ σ H} E l0 hne D hq => ?_⟩
  unfold sForApp at hne hq
  split at hne
  · rename_i dss e0
    have e0' : ρ[i]? = some (some (Sl.deep dss)) := e0
    rw [e0'] at hq
    obtain ⟨⟨c1, ⟨c2, c2'⟩, c3⟩, c4⟩ := if_inv hne
    have q0 : (match some (some (Sl.deep dss)) with
      | some (some (Sl.deep dss)) => if plainAt ρ j = true ∧ (j ≠ i ∧ j < ρ.length) ∧ (dss.all fun r => decide (r.length < 16777216)) = true then ret (Out.nx ((ρ.set j none).set i (some (.deep (dss.map fun r => r ++ [d]))))) else none
      | _ => none) = ret (Out.nx ((ρ.set j none).set i (some (.deep (dss.map fun r => r ++ [d]))))) := c4
    have hir : i < ρ.length := (List.getElem?_eq_some_iff.mp e0').1
    obtain ⟨l, ls, h1, h2, h4, hl, _⟩ := E.row e0
    have gi : ∀ s, ((ρ.set j none).set i (some s))[i]? = some (some s) := fun s => List.getElem?_set_self (by rw [List.length_set]; exact hir)
    have gj : ∀ s t, ((ρ.set j none).set i (some s))[j]? ≠ some (some t) := fun s t z => by
      rw [List.getElem?_set_ne (Ne.symm c2)] at z
      rcases set_get z with ⟨_, q, _⟩ | ⟨q, _⟩
      · cases q
      · exact q rfl
    have st : (ρ.set j none).set i (some (.deep (appN d 0 dss))) = ρ.set j none := by
      unfold appN
      rw [List.take_zero, List.map_nil, List.nil_append, List.drop_zero]
      apply List.ext_getElem?
      intro m
      by_cases hm : i = m
      · subst hm
        rw [gi, List.getElem?_set_ne c2]
        exact e0'.symm
      · rw [List.getElem?_set_ne hm]
    have E0 : Env X.K Hb L0 α ((ρ.set j none).set i (some (.deep (appN d 0 dss)))) σ H := by
      rw [st]
      exact E.forget c1
    refine ⟨.ref l, h1, l, rfl, ⟨_, SqL.of h4⟩, fun k m σ2 H2 => m + k = dss.length ∧ Env X.K Hb L0 α ((ρ.set j none).set i (some (.deep (appN d k dss)))) σ2 H2 ∧ Kps [j] (Lof L0 α) σ H (Lof L0 α) σ2 H2, ⟨dss.length, by omega, E0, Kps.same (Kp.refl _ _)⟩, ?_⟩
    rintro k m σ2 H2 ⟨hm, E2, k2⟩
    obtain ⟨l', ls', g1, g2, g4, gl, grow⟩ := E2.row (gi _)
    rw [h2] at g2
    injection g2 with g2 g3
    subst g2 g3
    by_cases hk : k < dss.length
    · have hkl : k < ls.length := by omega
      refine .inr ⟨⟨ls.map V.ref, .ref ls[k], SqL.of g4, by rw [List.getElem?_map, List.getElem?_eq_getElem hkl]; rfl⟩, fun σ3 H3 => Env X.K Hb L0 α ((ρ.set j none).set i (some (.deep (appN d (k + 1) dss)))) σ3 H3 ∧ Kps [j] (Lof L0 α) σ H (Lof L0 α) σ3 H3,
        fun σ3 H3 ⟨a1, a2⟩ => ⟨m - 1, by omega, by omega, a1, a2⟩, fun v H3 ⟨y1, y2⟩ => ?_⟩
      subst y1
      have hv3 := y2 _ (SqL.of g4)
      rw [List.getElem?_map, List.getElem?_eq_getElem hkl] at hv3
      have hv4 : V.ref ls[k] = v := Option.some.inj hv3
      subst hv4
      obtain ⟨xs, ds, r1, r2, r3⟩ := grow k ls[k] (List.getElem?_eq_getElem hkl)
      rw [appN_get hk] at r1
      have r1' := Option.some.inj r1
      subst r1'
      show tBM X.K "list" rAppend (tVar j) (tCons te tNil) (σ2.set j (some (.ref ls[k]))) H3 _
      have E3 : Env X.K Hb L0 α ((ρ.set j none).set i (some (.deep (appN d k dss)))) (σ2.set j (some (.ref ls[k]))) H3 := E2.junk (gj _)
      have jl : j < σ2.length := by
        have := E2.len
        rw [List.length_set, List.length_set] at this
        omega
      refine ⟨.ref ls[k], List.getElem?_set_self jl, .inl ⟨rfl, _, SqL.of r2⟩, d1 E3 (by rw [hf0]; exact Option.some_ne_none _) _ ⟨fun d' w H4 e4 s4 i4 => ?_, fun n H4 e4 _ => by rw [hf0] at e4; cases e4⟩⟩
      rw [hf0] at e4
      have ed : d = d' := ret_ok e4
      subst ed
      refine ⟨ls[k], xs, w, rfl, rfl, s4 _ _ r2, szl' ?_, ?_⟩
      · rw [r3.len]
        simpa using List.all_eq_true.mp c3 _ (List.getElem_mem hk)
      · obtain ⟨E5, k5⟩ := (E3.mono s4).wrRow (j := k) (gi _) h2 (List.getElem?_eq_getElem hkl) ((r3.same s4).append (.cons i4 .nil))
        rw [List.set_set, appN_set hk] at E5
        exact ⟨E5, ⟨(k2.1.trans (Kp.of_same s4)).trans k5, fun q hq => by
          rw [List.getElem?_set_ne (fun z => hq (List.mem_singleton.mpr z.symm))]
          exact k2.2 q hq⟩⟩
    · have ek : k = dss.length := by omega
      subst ek
      have fin : appN d dss.length dss = dss.map fun r => r ++ [d] := by
        unfold appN
        rw [List.take_length, List.drop_length, List.append_nil]
      rw [fin] at E2
      exact .inl ⟨⟨_, SqL.of g4, by rw [List.length_map]; omega⟩, hq.nx _ α σ2 H2 q0 E2 k2⟩
  · exact absurd rfl hne
end
end VW
/-! Defs that tell held lists of lists, that take them, that tell their own argument. -/
namespace VW
open PySem PySem.Spec PyProof.Rows L2
def spX (K : PySem.W.Frag) (cl : Ex → Addr) (n : Nat) (F : List PyData → M PyData) : Sp := fun vs H Q E => vs.length = n ∧ ∃ (L : Own) (ds : List PyData), (∀ a, L a → H a ≠ none) ∧ IsAll K L H vs ds ∧ F ds ≠ none ∧
  (∀ d as v H', F ds = some (.ok d) → (∀ a ∈ as, H a = none) → Same H H' → SlIs K (fun a => L a ∨ a ∈ as) H' as v (slOf d) → Q v H') ∧ (∀ x H', F ds = some (.er x) → Same H H' → E (.ref (cl x)) none H')
structure FX (P : Program) (w : World) (K : PySem.W.Frag) (mg : Str → Option Value) (base : Heap) (cl : Ex → Addr) (x : Str) (k n : Nat) (F : List PyData → M PyData) : Prop where
  ex : ∃ f fd ps, mg x = some (.ref f) ∧ PySem.W.keepIn K (.ref f) = true ∧ Binds K fd ps [] ∧ FnOk P w K mg base (L2.CX P w) k f fd ps (spX K cl n F)
/-- the first argument itself comes back -/
def spI (K : PySem.W.Frag) (cl : Ex → Addr) (F : PyData → M PyData) : Sp := fun vs H Q E => ∃ (v : V) (L : Own) (d : PyData), vs = [v] ∧ (∀ a, L a → H a ≠ none) ∧ Is K L H v d ∧ F d ≠ none ∧
  (∀ z H', F d = some (.ok z) → Same H H' → Q v H') ∧ (∀ x H', F d = some (.er x) → Same H H' → E (.ref (cl x)) none H')
structure FI (P : Program) (w : World) (K : PySem.W.Frag) (mg : Str → Option Value) (base : Heap) (cl : Ex → Addr) (x : Str) (k : Nat) (F : PyData → M PyData) : Prop where
  ex : ∃ f fd ps, mg x = some (.ref f) ∧ PySem.W.keepIn K (.ref f) = true ∧ Binds K fd ps [] ∧ FnOk P w K mg base (L2.CX P w) k f fd ps (spI K cl F)
/-- held lists are handed over -/
def spS (K : PySem.W.Frag) (cl : Ex → Addr) (n : Nat) (F : List Sl → M PyData) : Sp := fun vs H Q E => vs.length = n ∧ ∃ (L : Own) (α : Al) (ss : List Sl), (∀ a, L a → H a ≠ none) ∧ ss.length = n ∧ (∀ i a, a ∈ α i → L a) ∧ (∀ i j a, a ∈ α i → a ∈ α j → i = j) ∧
  (∀ (i : Nat) s, ss[i]? = some s → ∃ v, vs[i]? = some v ∧ SlIs K L H (α i) v s) ∧ (∀ i, n ≤ i → α i = []) ∧ F ss ≠ none ∧
  (∀ d v H', F ss = some (.ok d) → (∀ a o, (∀ i, a ∉ α i) → H a = some o → H' a = some o) → Is K (fun a => L a ∧ ∀ i, a ∉ α i) H' v d → Q v H') ∧
  (∀ x H', F ss = some (.er x) → (∀ a o, (∀ i, a ∉ α i) → H a = some o → H' a = some o) → E (.ref (cl x)) none H')
structure FS (P : Program) (w : World) (K : PySem.W.Frag) (mg : Str → Option Value) (base : Heap) (cl : Ex → Addr) (x : Str) (k n : Nat) (F : List Sl → M PyData) : Prop where
  ex : ∃ f fd ps, mg x = some (.ref f) ∧ PySem.W.keepIn K (.ref f) = true ∧ Binds K fd ps [] ∧ FnOk P w K mg base (L2.CX P w) k f fd ps (spS K cl n F)
def startS (n : Nat) (ss : List Sl) : Rho := ss.map some ++ List.replicate (n - ss.length) none
def fnS (n : Nat) (b : Rho → M Out) (ss : List Sl) : M PyData := bnd (b (startS n ss)) endD
/-- a def that looks at its argument, and tells it -/
def fnI (n : Nat) (b : Rho → M Out) (d : PyData) : M PyData := bnd (b (startR n [d])) fun o => match o with
  | .nx _ => ret d
  | _ => none
open Classical in
theorem env_startS {K : PySem.W.Frag} {L : Own} {α : Al} {H : Hp} {N : List Str} {vs : List V} {ss : List Sl} (hL : ∀ a, L a → H a ≠ none) (hl : vs.length = ss.length) (hsub : ∀ i a, a ∈ α i → L a) (hdis : ∀ i j a, a ∈ α i → a ∈ α j → i = j)
    (h : ∀ (i : Nat) s, ss[i]? = some s → ∃ v, vs[i]? = some v ∧ SlIs K L H (α i) v s) (hno : ∀ i, ss.length ≤ i → α i = []) :
    Env K (fun a => if ∃ i, a ∈ α i then none else H a) (fun a => L a ∧ ∀ i, a ∉ α i) α (startS N.length ss) (L2.start N vs) H := by
  have lof : ∀ a, Lof (fun a => L a ∧ ∀ i, a ∉ α i) α a → L a := fun a z => z.elim (fun z => z.1) fun ⟨i, z⟩ => hsub i a z
  have get : ∀ (i : Nat) s, (startS N.length ss)[i]? = some (some s) → ss[i]? = some s := fun i s e => by
    unfold startS at e
    by_cases hi : i < ss.length
    · rw [List.getElem?_append_left (by rw [List.length_map]; exact hi), List.getElem?_map, List.getElem?_eq_getElem hi] at e
      rw [List.getElem?_eq_getElem hi]
      have e' : (some (some ss[i]) : Option (Option Sl)) = some (some s) := e
      injection e' with e'
    · rw [List.getElem?_append_right (by rw [List.length_map]; omega), List.getElem?_replicate] at e
      split at e <;> cases e
  refine ⟨fun a o q => ?_, fun a z => hL a (lof a z), fun i a m => ⟨if_pos ⟨i, m⟩, fun z => z.2 i m⟩, hdis, ?_, fun i s e => ?_, fun i e => ?_⟩
  · split at q
    · cases q
    · exact q
  · unfold startS L2.start
    rw [List.length_append, List.length_append, List.length_map, List.length_map, List.length_replicate, List.length_replicate, hl]
  · have e1 := get i s e
    obtain ⟨v, h1, h2⟩ := h i s e1
    refine ⟨v, ?_, h2.anti lof⟩
    have hi : i < vs.length := (List.getElem?_eq_some_iff.mp h1).1
    unfold L2.start
    rw [List.getElem?_append_left (by rw [List.length_map]; exact hi), List.getElem?_map, h1]
    rfl
  · by_cases hi : i < ss.length
    · exact absurd (show (startS N.length ss)[i]? = some (some ss[i]) by
        unfold startS
        rw [List.getElem?_append_left (by rw [List.length_map]; exact hi), List.getElem?_map, List.getElem?_eq_getElem hi]
        rfl) (e ss[i])
    · exact hno i (by omega)
section
variable {P : Program} {w : World} {K : PySem.W.Frag} {mg : Str → Option Value} {base : Heap} {cl : Ex → Addr}
theorem Fun.okP {x qual : Str} {st : Stmt} {f : Addr} {fd : FuncData} {N ps : List Str} {k : Nat} {b : Rho → M Out} (F : Fun K x qual st f fd) (S : FnScope N ps (defScope st))
    (hb : ∀ (cdv : Value) (A : Around) (outer : List PySem.Env) (s : Shared) (H : Hp) (E : XK), Room k (A.deeper (envOfC qual (defScope st) s.heap.objs.size f cdv)) → ∃ ts, GSs (cxOf (L2.CX P w) P w K mg base N qual (defScope st) f cdv A outer s H E) cl (WF E) .dp false ts (defBody st) b) :
    FnOk P w K mg base (L2.CX P w) (k + 1) f fd ps (spX K cl ps.length (fnD N.length b)) := by
  refine F.okX S (fun vs H Q E h => h.1) fun cdv A outer s H vs Q E hr h => ?_
  obtain ⟨ts, ⟨t, p, d⟩⟩ := hb cdv A outer s H E hr
  refine ⟨t, p, ?_⟩
  obtain ⟨hl, L, ds, hL, hv, hne, h1, h2⟩ := h
  refine d (env_start (N := N) hL hv) hL (bnd_ne hne) _ ⟨fun ρ' α' σ' H' e1 E1 k1 => h1 .none [] .non H' (bnd_eq e1) (fun a m => nomatch m) E1.same ⟨rfl, .non⟩, fun ρ' α' σ' H' e1 E1 k1 => ?_, fun ρ' α' σ' H' e1 E1 k1 => ?_, fun d v H' e1 r => ?_, fun n σ' H' e1 s1 _ => h2 n H' (bnd_raise e1) s1⟩
  · exact absurd (show fnD N.length b ds = none from bnd_eq e1) hne
  · exact absurd (show fnD N.length b ds = none from bnd_eq e1) hne
  · obtain ⟨s1, as, hn, sl⟩ := r
    exact h1 d as v H' (bnd_eq e1) (fun a m => (hn a m).1) s1 sl
open Classical in
theorem Fun.okS {x qual : Str} {st : Stmt} {f : Addr} {fd : FuncData} {N ps : List Str} {k : Nat} {b : Rho → M Out} (F : Fun K x qual st f fd) (S : FnScope N ps (defScope st))
    (hb : ∀ (cdv : Value) (A : Around) (outer : List PySem.Env) (s : Shared) (H : Hp) (E : XK), Room k (A.deeper (envOfC qual (defScope st) s.heap.objs.size f cdv)) → ∃ ts, GSs (cxOf (L2.CX P w) P w K mg base N qual (defScope st) f cdv A outer s H E) cl (WF E) .pl false ts (defBody st) b) :
    FnOk P w K mg base (L2.CX P w) (k + 1) f fd ps (spS K cl ps.length (fnS N.length b)) := by
  refine F.okX S (fun vs H Q E h => h.1) fun cdv A outer s H vs Q E hr h => ?_
  obtain ⟨ts, ⟨t, p, d⟩⟩ := hb cdv A outer s H E hr
  refine ⟨t, p, ?_⟩
  obtain ⟨hl, L, α, ss, hL, hsl, hsub, hdis, hs, hno, hne, h1, h2⟩ := h
  have E0 := env_startS (N := N) hL (by rw [hl, hsl]) hsub hdis hs (fun i hi => hno i (by omega))
  have keep : ∀ {H' : Hp}, Same (fun a => if ∃ i, a ∈ α i then none else H a) H' → ∀ a o, (∀ i, a ∉ α i) → H a = some o → H' a = some o := fun {H'} s1 a o n q => s1 a o (by
    show (if ∃ i, a ∈ α i then none else H a) = some o
    rw [if_neg (fun ⟨i, z⟩ => n i z)]
    exact q)
  refine d E0 (fun a z => ?_) (bnd_ne hne) _ ⟨fun ρ' α' σ' H' e1 E1 k1 => h1 .none .non H' (bnd_eq e1) (keep E1.same) .non, fun ρ' α' σ' H' e1 E1 k1 => ?_, fun ρ' α' σ' H' e1 E1 k1 => ?_, fun d v H' e1 r => h1 d v H' (bnd_eq e1) (keep r.1) r.2, fun n σ' H' e1 s1 _ => h2 n H' (bnd_raise e1) (keep s1)⟩
  · show (if ∃ i, a ∈ α i then none else H a) ≠ none
    rw [if_neg (fun ⟨i, q⟩ => z.2 i q)]
    exact hL a z.1
  · exact absurd (show fnS N.length b ss = none from bnd_eq e1) hne
  · exact absurd (show fnS N.length b ss = none from bnd_eq e1) hne
/-- st1; return x, x the argument -/
theorem Fun.okI {x qual : Str} {st st1 : Stmt} {f : Addr} {fd : FuncData} {N : List Str} {y : Str} {k : Nat} {b : Rho → M Out} {rp np : Pos} (F : Fun K x qual st f fd) (S : FnScope N [y] (defScope st)) (hbody : defBody st = [st1, .Return (some (.Name y np)) rp])
    (hN : N[0]? = some y) (hvis : Vis (defScope st) y) (hd : (y == ("__debug__" : Str)) = false) (hcd : (y == ("__classdict__" : Str)) = false)
    (hb : ∀ (cdv : Value) (A : Around) (outer : List PySem.Env) (s : Shared) (H : Hp) (E : XK), Room k (A.deeper (envOfC qual (defScope st) s.heap.objs.size f cdv)) → ∃ ts, 0 ∉ ts ∧ GS (cxOf (L2.CX P w) P w K mg base N qual (defScope st) f cdv A outer s H E) cl (WF E) .pl false ts st1 b) :
    FnOk P w K mg base (L2.CX P w) (k + 1) f fd [y] (spI K cl (fnI N.length b)) := by
  refine F.okX S (fun vs H Q E h => by obtain ⟨v, _, _, rfl, _⟩ := h; rfl) fun cdv A outer s H vs Q E hr h => ?_
  obtain ⟨ts, h0, ⟨t, p, d⟩⟩ := hb cdv A outer s H E hr
  rw [hbody]
  refine ⟨_, pss_cons p (pss_one (ps_ret (pe_var (i := 0) hN hvis hd hcd))), ?_⟩
  obtain ⟨v, L, z, rfl, hL, hv, hne, h1, h2⟩ := h
  have sne : b (startR N.length [z]) ≠ none := bnd_ne hne
  have lof : ∀ a, Lof L (fun _ => []) a → L a := fun a q => q.elim id fun ⟨i, q⟩ => nomatch q
  refine d (env_start (N := N) hL (.cons hv .nil)) hL sne _ ⟨fun ρ' α' σ' H' e1 E1 k1 => ?_, fun ρ' α' σ' H' e1 E1 k1 => ?_, fun ρ' α' σ' H' e1 E1 k1 => ?_, fun d v H' e1 r => ?_, fun n σ' H' e1 s1 _ => h2 n H' (bnd_raise e1) s1⟩
  · refine ⟨v, (k1.2 0 h0).trans ?_, h1 z H' (bnd_eq e1) E1.same⟩
    unfold L2.start
    rw [List.getElem?_append_left (by simp)]
    rfl
  · exact absurd (show fnI N.length b z = none from bnd_eq e1) hne
  · exact absurd (show fnI N.length b z = none from bnd_eq e1) hne
  · exact absurd (show fnI N.length b z = none from bnd_eq e1) hne
variable {X : Cx} {W : WX} {x : Str} {k n : Nat} {p pos : Pos} {e : Expr} {es : List Expr} {fa : Rho → M (List PyData)} {f : Rho → M PyData}
theorem gd_call {F : List PyData → M PyData} (h : FX X.prog X.w X.K X.mg X.base cl x k n F) (hr : Room k X.A) (tk : Takes X W) (ha : GA X cl W (e :: es) fa) (hn : ∀ ρ ds, fa ρ = some (.ok ds) → ds.length = n) (hg : Gl X x := by rfl) (hdb : (x == ("__debug__" : Str)) = false := by decide)
    (he : starEach (e :: es) X.env = (false, eval e X.env) :: starEach es X.env := by rfl) (hpl : (backTo pos (starEach es X.env)).any (·.1) = false := by rfl) : GD X cl W (.Call (.Name x p) (e :: es) [] pos) (mCall F fa) := by
  obtain ⟨f, fd, ps, h1, h2, h3, h4⟩ := h
  obtain ⟨ta, p1, d1⟩ := ha
  refine ⟨_, pe_callS h4 hr hg h1 h2 h3 (fun σ => passAt tk σ) p1 hdb he hpl, fun {Hb L0 α ρ σ H} E hne Q hq => d1 E (bnd_ne hne) _ ⟨fun ds vs H1 e1 s1 i1 => ?_, fun n H1 e1 s1 => hq.2 n H1 (bnd_raise e1) s1⟩⟩
  have n1 := bnd_at hne e1
  have q1 : mCall F fa ρ = F ds := bnd_eq e1
  exact ⟨by rw [i1.len]; exact hn ρ ds e1, _, ds, (E.mono s1).dom, i1, n1, fun d as v H2 e2 hf s2 sl => hq.1 d as v H2 (q1.trans e2) (fun a m => s1.free (hf a m)) (s1.trans s2) sl, fun n H2 e2 s2 => hq.2 n H2 (q1.trans e2) (s1.trans s2)⟩
/-- a call of a def that tells its argument, a new list -/
def mCallI (F : PyData → M PyData) (fa : Rho → M (List PyData)) : Rho → M (List PyData) := fun ρ => bnd (fa ρ) fun ds => bnd (F (.list ds)) fun _ => ret ds
theorem gf_callI {F : PyData → M PyData} (h : FI X.prog X.w X.K X.mg X.base cl x k F) (hr : Room k X.A) (tk : Takes X W) (ha : GF X cl W e fa) (hg : Gl X x := by rfl) (hdb : (x == ("__debug__" : Str)) = false := by decide)
    (he : starEach [e] X.env = (false, eval e X.env) :: starEach [] X.env := by rfl) (hpl : (backTo pos (starEach [] X.env)).any (·.1) = false := by rfl) : GF X cl W (.Call (.Name x p) [e] [] pos) (mCallI F fa) := by
  obtain ⟨f, fd, ps, h1, h2, h3, h4⟩ := h
  obtain ⟨te, p1, d1⟩ := ha
  refine ⟨_, pe_callS h4 hr hg h1 h2 h3 (fun σ => passAt tk σ) (pa_cons p1 pa_nil he) hdb he hpl, fun {Hb L0 α ρ σ H} E hne Q hq => d1 E (bnd_ne hne) _ ⟨fun ds p xs H1 e1 hp s1 hx i1 => ?_, fun n H1 e1 s1 => hq.2 n H1 (bnd_raise e1) s1⟩⟩
  have n1 := bnd_at hne e1
  have q1 : mCallI F fa ρ = bnd (F (.list ds)) fun _ => ret ds := bnd_eq e1
  refine ⟨.ref p, Lof L0 α, .list ds, rfl, (E.mono s1).dom, .lst (fun z => E.dom p z hp) hx (i1.anti fun a z => .inl z), bnd_ne n1, fun z H2 e2 s2 => ?_, fun n H2 e2 s2 => hq.2 n H2 (q1.trans (bnd_raise e2)) (s1.trans s2)⟩
  exact hq.1 ds p xs H2 (q1.trans (bnd_eq e2)) hp (s1.trans s2) (s2 _ _ hx) (i1.same s2)
end
/-! ### return f(x, y, ..) and .., f takes held lists -/
def slotsAt (ρ : Rho) : List Nat → Option (List Sl)
  | [] => some []
  | i :: is => match ρ[i]? with
    | some (some s) => (slotsAt ρ is).map (s :: ·)
    | _ => none
def sRetOwn (is : List Nat) (F : List Sl → M PyData) (t : Rho → M Bool) : Rho → M Out := fun ρ => match slotsAt ρ is with
  | some ss => if is.Nodup then bnd (F ss) fun d => match d with
    | .bool true => bnd (t (wipeR ρ is)) fun b => ret (.rt (.bool b))
    | .bool false => ret (.rt (.bool false))
    | _ => none else none
  | none => none
theorem slotsAt_get {ρ : Rho} : ∀ {is : List Nat} {ss : List Sl}, slotsAt ρ is = some ss → ss.length = is.length ∧ ∀ (j i : Nat), is[j]? = some i → ∃ s, ss[j]? = some s ∧ ρ[i]? = some (some s)
  | [], ss, h => by cases h; exact ⟨rfl, fun j i e => by simp at e⟩
  | i :: is, ss, h => by
    unfold slotsAt at h
    split at h
    · rename_i s e
      cases q : slotsAt ρ is with
      | none => rw [q] at h; cases h
      | some r =>
        rw [q] at h
        cases h
        obtain ⟨a, b⟩ := slotsAt_get q
        refine ⟨by rw [List.length_cons, List.length_cons, a], fun j i' e' => ?_⟩
        cases j with
        | zero =>
          have e2 := Option.some.inj e'
          subst e2
          exact ⟨s, rfl, e⟩
        | succ j => exact b j i' (by simpa using e')
    · cases h
/-- the names' values -/
def tNames : List Nat → TA
  | [] => tNil
  | i :: is => tCons (tVar i) (tNames is)
theorem names_run {K : PySem.W.Frag} {Hb : Hp} {L0 : Own} {α : Al} {ρ : Rho} {σ : L2.St} {H : Hp} (E : Env K Hb L0 α ρ σ H) : ∀ {is : List Nat} {ss : List Sl}, slotsAt ρ is = some ss → ∃ vs : List V, vs.length = is.length ∧ (∀ (j i : Nat), is[j]? = some i → ∃ v s, vs[j]? = some v ∧ ss[j]? = some s ∧ SlIs K (Lof L0 α) H (α i) v s) ∧ ∀ Q : List V → Hp → Prop, Q vs H → tNames is σ H Q
  | [], ss, h => ⟨[], rfl, fun j i e => by simp at e, fun Q q => q⟩
  | i :: is, ss, h => by
    unfold slotsAt at h
    split at h
    · rename_i s e
      cases q : slotsAt ρ is with
      | none => rw [q] at h; cases h
      | some r =>
        rw [q] at h
        cases h
        obtain ⟨v, h1, h2⟩ := E.sl i s e
        obtain ⟨vs, a, b, c⟩ := names_run E q
        refine ⟨v :: vs, by rw [List.length_cons, List.length_cons, a], fun j i' e' => ?_, fun Q hq => ⟨v, h1, c _ hq⟩⟩
        cases j with
        | zero =>
          have e2 := Option.some.inj e'
          subst e2
          exact ⟨v, s, rfl, rfl, h2⟩
        | succ j =>
          obtain ⟨w, t, e1, e2, e3⟩ := b j i' (by simpa using e')
          exact ⟨w, t, by simpa using e1, by simpa using e2, e3⟩
    · cases h
open Classical in
noncomputable def offA (α : Al) (is : List Nat) : Al := fun j => if j ∈ is then [] else α j
def argA (α : Al) (is : List Nat) : Al := fun j => match is[j]? with
  | some i => α i
  | none => []
section
variable {X : Cx} {cl : Ex → Addr} {W : WX} {pu : Bool} {x : Str} {k n : Nat} {p pos cpos : Pos} {e b : Expr} {es rest : List Expr} {t : Rho → M Bool}
theorem gs_retOwn (is : List Nat) {F : List Sl → M PyData} (h : FS X.prog X.w X.K X.mg X.base cl x k n F) (hr : Room k X.A) (tk : Takes X W) (ha : PA X (e :: es) (tNames is)) (hn : is.length = n) (hb : GE X cl W (.BoolOp .And (b :: rest) pos) (mB t)) (hg : Gl X x := by rfl) (hdb : (x == ("__debug__" : Str)) = false := by decide)
    (he : starEach (e :: es) X.env = (false, eval e X.env) :: starEach es X.env := by rfl) (hpl : (backTo cpos (starEach es X.env)).any (·.1) = false := by rfl) :
    GS X cl W .pl false [] (.Return (some (.BoolOp .And (.Call (.Name x p) (e :: es) [] cpos :: b :: rest) pos)) pos') (sRetOwn is F t) := by
  obtain ⟨f, fd, ps, h1, h2, h3, h4⟩ := h
  obtain ⟨tb, p2, d2⟩ := hb
  refine ⟨_, ps_ret (pe_and (pe_callS h4 hr hg h1 h2 h3 (fun σ => passAt tk σ) ha hdb he hpl) p2), fun {Hb L0 α ρ σ H} E l0 hne D hq => ?_⟩
  unfold sRetOwn at hne hq
  cases es : slotsAt ρ is with
  | none => rw [es] at hne; exact absurd rfl hne
  | some ss =>
    rw [es] at hne hq
    dsimp only at hne hq
    obtain ⟨c1, c2⟩ := if_inv hne
    rw [c2] at hq hne
    obtain ⟨vs, a1, a2, a3⟩ := names_run E es
    obtain ⟨b1, b2⟩ := slotsAt_get es
    have gA : ∀ (j i : Nat), is[j]? = some i → argA α is j = α i := fun j i e => by unfold argA; rw [e]
    have gN : ∀ j, is[j]? = none → argA α is j = [] := fun j e => by unfold argA; rw [e]
    have mem : ∀ (j : Nat) a, a ∈ argA α is j → ∃ i, is[j]? = some i ∧ a ∈ α i := fun j a m => by
      cases q : is[j]? with
      | none => rw [gN j q] at m; cases m
      | some i => rw [gA j i q] at m; exact ⟨i, rfl, m⟩
    have nin : ∀ a, (∀ j, a ∉ argA α is j) → ∀ i ∈ is, a ∉ α i := fun a hn i hi m => by
      obtain ⟨j, hj, e⟩ := List.getElem_of_mem hi
      exact hn j (by rw [gA j i (by rw [List.getElem?_eq_getElem hj, e])]; exact m)
    refine a3 _ ⟨by rw [a1, hn], Lof L0 α, argA α is, ss, E.dom, by rw [b1, hn], fun j a m => ?_, fun j j' a m m' => ?_, fun j s e => ?_, fun j hj => gN j (List.getElem?_eq_none (by omega)), bnd_ne hne, fun d v H' e1 kp iv => ?_, fun m H' e1 kp => hq.er m σ H' (bnd_raise e1) ?_ fun z => nomatch z⟩
    · obtain ⟨i, _, m⟩ := mem j a m
      exact .inr ⟨i, m⟩
    · obtain ⟨i, e1, m1⟩ := mem j a m
      obtain ⟨i', e2, m2⟩ := mem j' a m'
      have := E.disj i i' a m1 m2
      subst this
      obtain ⟨l1, g1⟩ := List.getElem?_eq_some_iff.mp e1
      obtain ⟨l2, g2⟩ := List.getElem?_eq_some_iff.mp e2
      exact (List.getElem_inj c1).mp (g1.trans g2.symm)
    · have hj : j < is.length := by rw [← b1]; exact (List.getElem?_eq_some_iff.mp e).1
      obtain ⟨v, s', e1, e2, e3⟩ := a2 j is[j] (List.getElem?_eq_getElem hj)
      rw [e] at e2
      cases e2
      exact ⟨v, e1, by rw [gA j is[j] (List.getElem?_eq_getElem hj)]; exact e3⟩
    · have n1 := bnd_at hne e1
      have q1 := bnd_eq (k := fun d => match d with
        | PyData.bool true => bnd (t (wipeR ρ is)) fun b => ret (Out.rt (.bool b))
        | .bool false => ret (.rt (.bool false))
        | _ => none) e1
      have sm : Same Hb H' := fun a o q => kp a o (fun j m => by
        obtain ⟨i, _, m⟩ := mem j a m
        rw [(E.new i a m).1] at q
        cases q) (E.same a o q)
      cases d with
      | bool c =>
        cases iv
        refine ⟨c, rfl, ?_⟩
        cases c with
        | false => exact hq.rt (.bool false) _ H' q1 ⟨sm, .bl false⟩
        | true =>
          have n2 : bnd (t (wipeR ρ is)) (fun b => ret (Out.rt (.bool b))) ≠ none := n1
          have sub : ∀ a, Lof L0 (offA α is) a → Lof L0 α a ∧ ∀ j, a ∉ argA α is j := fun a z => by
            rcases z with z | ⟨i, z⟩
            · exact ⟨.inl z, fun j m => let ⟨i, _, m⟩ := mem j a m; (E.new i a m).2 z⟩
            · unfold offA at z
              split at z
              · cases z
              · rename_i hi
                refine ⟨.inr ⟨i, z⟩, fun j m => ?_⟩
                obtain ⟨i', e', m⟩ := mem j a m
                have := E.disj i i' a z m
                subst this
                exact hi (List.mem_of_getElem? e')
          have E' : Env X.K Hb L0 (offA α is) (wipeR ρ is) σ H' := by
            refine ⟨sm, fun a z => ?_, fun i a m => ?_, fun i j a m m' => ?_, by rw [wipeR_length]; exact E.len, fun i s e => ?_, fun i e => ?_⟩
            · obtain ⟨z1, z2⟩ := sub a z
              cases q : H a with
              | none => exact absurd q (E.dom a z1)
              | some o =>
                rw [kp a o z2 q]
                exact Option.some_ne_none _
            · unfold offA at m
              split at m
              · cases m
              · exact E.new i a m
            · unfold offA at m m'
              split at m
              · cases m
              · split at m'
                · cases m'
                · exact E.disj i j a m m'
            · rw [wipeR_get] at e
              by_cases hm : i ∈ is
              · rw [if_pos hm] at e
                split at e <;> cases e
              · rw [if_neg hm] at e
                obtain ⟨v, g1, g2⟩ := E.sl i s e
                have eo : offA α is i = α i := by unfold offA; rw [if_neg hm]
                have ni : ∀ a, a ∈ α i → ∀ j, a ∉ argA α is j := fun a m j m' => by
                  obtain ⟨i', e', m'⟩ := mem j a m'
                  have := E.disj i i' a m m'
                  subst this
                  exact hm (List.mem_of_getElem? e')
                refine ⟨v, g1, ?_⟩
                rw [eo]
                exact g2.mv (fun a o n q => ⟨fun z => n (sub a z).1, kp a o (fun j m => by
                  obtain ⟨i', _, m⟩ := mem j a m
                  exact n (.inr ⟨i', m⟩)) q⟩) fun a m o q => kp a o (ni a m) q
            · unfold offA
              split
              · rfl
              · rename_i hm
                refine E.no i fun s q => e s ?_
                rw [wipeR_get, if_neg hm]
                exact q
          have hB : mB t (wipeR ρ is) ≠ none := fun z => by
            have tn := bnd_ne n2
            unfold mB at z
            cases q : t (wipeR ρ is) with
            | none => exact tn q
            | some r => rw [q] at z; cases r <;> cases z
          show tb σ H' _
          refine d2 E' hB _ ⟨fun d v H2 e2 s2 i2 => ?_, fun m H2 e2 s2 => ?_⟩
          · cases q : t (wipeR ρ is) with
            | none => exact absurd q (bnd_ne n2)
            | some r =>
              cases r with
              | er m => unfold mB at e2; rw [q] at e2; cases e2
              | ok c =>
                unfold mB at e2
                rw [q] at e2
                have ed : PyData.bool c = d := ret_ok e2
                subst ed
                refine hq.rt (.bool c) v H2 (q1.trans ?_) ⟨sm.trans s2, ?_⟩
                · show bnd (t (wipeR ρ is)) (fun b => ret (Out.rt (.bool b))) = _
                  rw [q]
                  rfl
                · cases i2
                  exact .bl c
          · cases q : t (wipeR ρ is) with
            | none => exact absurd q (bnd_ne n2)
            | some r =>
              cases r with
              | ok c => unfold mB at e2; rw [q] at e2; cases e2
              | er m' =>
                unfold mB at e2
                rw [q] at e2
                have em : m' = m := by
                  have e3 : (some (Rs.er m') : M PyData) = some (.er m) := e2
                  injection e3 with e3
                  injection e3
                subst em
                refine hq.er m' σ H2 (q1.trans ?_) (sm.trans s2) fun z => nomatch z
                show bnd (t (wipeR ρ is)) (fun b => ret (Out.rt (.bool b))) = _
                rw [q]
                rfl
      | _ => exact absurd rfl n1
    · exact fun a o q => kp a o (fun j m => by
        obtain ⟨i, _, m⟩ := mem j a m
        rw [(E.new i a m).1] at q
        cases q) (E.same a o q)
end
end VW
/-! An exception that leaves a list comprehension. -/
namespace VW
open PySem PySem.Spec PyProof.Rows L2
section
variable {M : Model} {A : Around} {E : Value → Shared → Prop} {s : Shared}
/-- behind the block: as compPost says of a value; of an exception the block's own environment is known -/
def endC (M : Model) (A : Around) (E : Value → Shared → Prop) (use : Option (Value → Sem Unit)) (Q : Value → Shared → Prop) (acc : Value) (ce : PySem.Env) (r : Result) (t : Shared) : Prop :=
  match r with
  | .ok f => compPost M A E use Q acc ce.locals (.ok f) t
  | .error x => ∃ m, t.heap.Ns ce.locals m ∧ ∀ (h' : Heap) (m' : Str → Option Value), h'.Ns ce.locals m' → Heap.SameBut ce.locals t.heap h' → wpAny M A (passOn "comprehension.variables-let-go" x ce : Sem Value) (fun _ _ => False) E { t with heap := h' }
theorem comp_ends {env : PySem.Env} {e : Expr} {scope : Scope} {pos : Pos} {nw first : Sem Value} {g : Comprehension} {gs : List Comprehension} {cs : List (Str × Addr)} {use : Option (Value → Sem Unit)} {Q : Value → Shared → Prop}
    (c1 : clausesOf e = g :: gs) (c2 : ∀ x, foldedSetIterable g.iter env x = pure x) (c3 : closureFor scope env = pure cs) (c4 : scope.kind = .function) (c5 : ∀ x ∈ scope.names, x.2 = .local → scope.names.lookup x.1 = some .local)
    (run : wpAny M A first (fun x s1 => wpAny M A (pyIter x) (fun it s2 => wpAny M A nw (fun acc s3 =>
        wpAny M A (newFunctionEnv scope env.globals cs [] env.qual none .none (some env)) (fun cn s4 =>
          codeAny M A (.compStart e 0 it acc { cn with scope := relabel scope env }) (endC M A E use Q acc { cn with scope := relabel scope env }) s4) E s3) E s2) E s1) E s) :
    wpAny M A (comprehension e scope env pos nw false first use) Q E s := by
  unfold comprehension
  rw [c3, c1]
  refine wpAny_bind (wpAny_mono run (fun x s1 k1 => ?_) fun _ _ z => z)
  refine wpAny_bind (wpAny_standAt (wpAny_bind (wpAny_of_eq (c2 x) (wpAny_bind (wpAny_holding (wpAny_mono k1 (fun it s2 k2 => ?_) fun _ _ z => z))))))
  refine wpAny_standIf (wpAny_bind (wpAny_mono k2 (fun acc s3 k3 => ?_) fun _ _ z => z))
  refine wpAny_bind (wpAny_pure (wpAny_bind (wpAny_mono k3 (fun cn s4 k4 => ?_) fun _ _ z => z)))
  dsimp only
  generalize hvs : (scope.names.filter fun x => (x.2 == .local || x.2 == .cell) && x.1 != (".0" : Str)).reverse = vs
  have v1 : ∀ x ∈ vs, x.2 = .local → PySem.Env.kindOf { cn with scope := relabel scope env } x.1 = some .local := fun x hx hl => by
    rw [← hvs] at hx
    exact lookup_relabel_local (c5 x (List.mem_filter.mp (List.mem_reverse.mp hx)).1 hl)
  have v2 : ∀ x ∈ vs.drop 1 ++ vs.take 1, x.2 = .local → PySem.Env.kindOf { cn with scope := relabel scope env } x.1 = some .local := fun x hx hl =>
    v1 x ((List.mem_append.mp hx).elim List.mem_of_mem_drop List.mem_of_mem_take) hl
  refine wpAny_holding (wpAny_bind (wpAny_attempt (wpAny_holding (wpAny_run (codeAny_mono k4 fun r t ht => ?_)))))
  cases r with
  | ok f =>
    have ht : compPost M A E use Q acc cn.locals (.ok f) t := ht
    cases use with
    | none =>
      obtain ⟨m, n1, n2⟩ := ht
      exact wpAny_bind (wpAny_holding (wpAny_comp_letGo (cenv := { cn with scope := relabel scope env }) c4 vs t m v1 n1 fun h' m' _ sb => wpAny_pure (n2 h' sb)))
    | some u =>
      refine wpAny_bind (wpAny_rule (wpAny_bind (wpAny_holding (wpAny_mono ht (fun _ t' ht' => ?_) fun _ _ z => z))))
      obtain ⟨m, n1, n2⟩ := ht'
      exact wpAny_bind (wpAny_comp_letGo (cenv := { cn with scope := relabel scope env }) c4 _ t' m v2 n1 fun h' m' _ sb => wpAny_pure (n2 h' sb))
  | error x =>
    obtain ⟨m, n1, n2⟩ := ht
    exact wpAny_bind (wpAny_holding (wpAny_comp_letGo (cenv := { cn with scope := relabel scope env }) c4 vs t m v1 n1 fun h' m' k sb => wpAny_mono (n2 h' m' k sb) (fun _ _ f => f.elim) fun _ _ z => z))
end
/-! ### exceptions in the air, whoever marked them -/
def SkyV (B : Heap) (l : List PySem.Env) (a : Addr) (Z : Obj → Prop) (fl : Value → Prop) (h : Heap) : Prop :=
  B.StaysIn h ∧ B.get? a = none ∧ h.FunFrames B l ∧ ((∃ oe vs, h.get? a = some oe ∧ Z oe ∧ oe.data = .fields vs ∧ vs[1]? = some .none) ∨ ∃ f, fl f ∧ HandSPX.TracedZ h B a Z f)
structure Air (X : Cx) (W : WX) (fl : Value → Prop) (u : Value) (s' : Shared) : Prop where
  ex : ∃ (a : Addr) (B : Heap) (sI : Shared) (pins : List (Addr × Obj)) (σ : L2.St) (H : Hp) (c : Value) (d : Option Addr), (u = .ref a ∧ Inv X pins σ H sI ∧ H a = none ∧ s'.os = sI.os ∧ AllBare s'.gens ∧ W c d σ H) ∧
    (∀ b o, sI.heap.get? b = some o → b ∉ frs X.stack → B.get? b = some o) ∧ sI.heap.UpToSlots s'.heap ∧ SkyV B X.stack a (Zc c d) fl s'.heap
theorem Air.of_XE {X : Cx} {W : WX} {u : Value} {s' : Shared} (x : XE X W u s') : Air X W (fun _ => True) u s' := by
  obtain ⟨a, B, sI, pins, σ, H, c, d, e, I, nb, up, sky, na, os, ag, w⟩ := x
  refine ⟨a, B, sI, pins, σ, H, c, d, ⟨e, I, na, os, ag, w⟩, nb, up, ?_⟩
  rcases sky with ⟨k1, k2, k3, k4⟩ | ⟨k1, k2, k3, k4⟩ | ⟨k1, k2, k3, k4⟩
  · exact ⟨k1, k2, k3, .inl k4⟩
  · exact ⟨k1, k2, k3, .inr ⟨_, trivial, k4⟩⟩
  · exact ⟨k1, k2, k3, .inr ⟨_, trivial, k4⟩⟩
theorem Air.toXE {X : Cx} {W : WX} {u : Value} {s' : Shared} (x : Air X W (fun f => f = rawInt X.env.locals) u s') : XE X W u s' := by
  obtain ⟨a, B, sI, pins, σ, H, c, d, ⟨e, I, na, os, ag, w⟩, nb, up, k1, k2, k3, k4⟩ := x
  refine ⟨a, B, sI, pins, σ, H, c, d, e, I, nb, up, ?_, na, os, ag, w⟩
  rcases k4 with k4 | ⟨f, rfl, k4⟩
  · exact .inl ⟨k1, k2, k3, k4⟩
  · exact .inr (.inr ⟨k1, k2, k3, k4⟩)
theorem Air.more {X : Cx} {W : WX} {fl : Value → Prop} {u : Value} {s' : Shared} (x : Air X W fl u s') : Air X W (fun _ => True) u s' := by
  obtain ⟨a, B, sI, pins, σ, H, c, d, q, nb, up, k1, k2, k3, k4⟩ := x
  exact ⟨a, B, sI, pins, σ, H, c, d, q, nb, up, k1, k2, k3, k4.imp id fun ⟨f, _, z⟩ => ⟨f, trivial, z⟩⟩
/-- taken, where the frame at L marked it last -/
def TakesF (X : Cx) (W : WX) (L : Addr) : Prop := ∀ u s', Air X W (fun f => f = rawInt L) u s' → X.xe u s'
theorem Takes.f {X : Cx} {W : WX} {L : Addr} (tk : Takes X W) (e : X.env.locals = L) : TakesF X W L := fun u s' x => tk u s' (Air.toXE (by rw [e]; exact x))
theorem note_same {u : Value} {e1 e2 : PySem.Env} (h : e1.frame = e2.frame) : noteFrame u e1 = noteFrame u e2 := by
  unfold noteFrame PySem.frameOf
  rw [h]
theorem look_any {M : Model} {A : Around} {E : Value → Shared → Prop} {s : Shared} {Z : Obj → Prop} {B : Heap} {env : PySem.Env} {outer : List PySem.Env} {L a : Addr} {Q : Unit → Shared → Prop} (hZ : HandSPX.Steady Z) (fr : A.frames = some (env :: outer)) (hf : env.frame = some L)
    (sky : SkyV B (env :: outer) a Z (fun _ => True) s.heap) (q : ∀ h', HandSPX.HeldZ B (env :: outer) a Z L h' → s.heap.UpToSlots h' → Q () { s with heap := h' }) : wpAny M A (noteFrame (.ref a) env) Q E s := by
  obtain ⟨k1, k2, k3, k4⟩ := sky
  rcases k4 with ⟨oe, vs, he, hz, hd, h1⟩ | ⟨f, -, tr⟩
  · exact HandSPX.look_newZ hZ fr k3 hf he k1 k2 hd h1 hz q
  · by_cases hfl : (f == rawInt L) = true
    · have ef := eq_of_beq hfl
      subst ef
      exact HandSPX.againZ hf tr (q s.heap ⟨k1, k2, k3, tr⟩ (Heap.UpToSlots.refl _))
    · obtain ⟨oe, vs, T, oT, ts, he, hz, hd, h1, hnT, hTe, hT, hdT, h3⟩ := tr
      unfold noteFrame
      simp only [hf]
      refine wpAny_bind (wpAny_field he hd h1 ?_)
      rw [if_pos (show (Value.ref T != Value.none) = true by simp)]
      refine wpAny_bind (wpAny_field hT hdT h3 ?_)
      rw [if_neg hfl]
      refine wpAny_bind (wpAny_setField hT hdT (Array.getElem?_eq_some_iff.mp h3).1 ?_)
      have oth : ∀ b, b ≠ T → (s.heap.update T (Obj.mapFields (·.setIfInBounds 3 Value.none))).get? b = s.heap.get? b := fun b hb => Heap.get?_update_other _ _ (Ne.symm hb)
      have nrec : ∀ b o, s.heap.get? b = some o → (∀ vs, o.data ≠ .fields vs) → b ≠ T := fun b o hb hn z => by
        rw [z, hT] at hb
        injection hb with hb
        subst hb
        exact hn ts hdT
      refine HandSPX.wpAny_entryZ hZ fr (k3.of_keeps fun b o hb hn => ⟨o, (oth b (nrec b o hb hn)).trans hb, rfl⟩) hf ((oth a (Ne.symm hTe)).trans he) (fun b o hb => (oth b fun z => by rw [z, hnT] at hb; cases hb).trans (k1 b o hb)) k2 hd (Array.getElem?_eq_some_iff.mp h1).1 hz fun h' n => ?_
      obtain ⟨x1, x2, x3, x4⟩ := n
      exact q h' ⟨x1, k2, x2, x3⟩ fun b o hb hn => x4 b o ((oth b (nrec b o hb hn)).trans hb) hn
/-- the frame that runs is at L, the code's own environment too names it -/
structure OnF (X : Cx) (L : Addr) : Prop where
  ex : ∃ e0 o0, X.stack = e0 :: o0 ∧ e0.frame = some L
  fr : X.env.frame = some L
section
variable {X : Cx} {W : WX} {L : Addr} {pins : List (Addr × Obj)} {σ : L2.St} {H3 : Hp} {s3 : Shared}
/-- what leaves the block reaches what is wanted outside -/
theorem block_air {scope : Scope} {ce : PySem.Env} {fp : List Addr} {use : Option (Value → Sem Unit)} {Qf : Value → Shared → Prop} {acc : Value} (on : OnF X L) (tk : TakesF X W L) (I3 : Inv X pins σ H3 s3) (f3 : ∀ b ∈ fp, FpOk X pins H3 b ∧ b < s3.heap.objs.size)
    (hl : ce.locals = s3.heap.objs.size) (hfr : ce.frame = X.env.frame) {u : Value} {s' : Shared} (x : Air (X.blk s3 H3 scope ce fp) (fun c d _ H => W c d σ H) (fun _ => True) u s') :
    notedBy (model X.prog X.w) X.A ce (fun e t => endC (model X.prog X.w) X.A X.xe use Qf acc ce (.error e) t) u s' := by
  obtain ⟨a, B, sI, pins', σ', H', c, d, ⟨rfl, I', na, os, ag, w⟩, nb, up, sky⟩ := x
  obtain ⟨⟨e0, o0, es, ef⟩, xf⟩ := on
  have nb : ∀ b o, sI.heap.get? b = some o → b ∉ frs X.stack → B.get? b = some o := nb
  have sky : SkyV B X.stack a (Zc c d) (fun _ => True) s'.heap := sky
  rw [es] at sky
  have hA : X.A.frames = some (e0 :: o0) := by rw [I3.ok.frames, es]
  unfold notedBy
  rw [note_same (show ce.frame = e0.frame by rw [hfr, xf, ef])]
  refine look_any Zc.steady hA ef sky fun h1 hh up1 => ?_
  -- the block's own names
  obtain ⟨m, ⟨o, tb, ep, ho, hd, hr⟩, _⟩ := id I'.loc
  have ho : sI.heap.get? ce.locals = some o := ho
  have nf : ∀ vs, o.data ≠ .fields vs := fun vs z => by rw [hd] at z; cases z
  obtain ⟨sl, e1⟩ := (up.trans up1) _ _ ho nf
  have hC : ce.locals ∉ frs X.stack := fun hm => by
    obtain ⟨_, o', e', _⟩ := I3.stack.mem hm
    have z := Heap.lt_size e'
    rw [hl] at z
    exact absurd z (Nat.lt_irrefl _)
  have hCB : B.get? ce.locals = some o := nb _ _ ho hC
  have hCH : H' ce.locals = none := I'.free
  refine ⟨m, ⟨_, tb, ep, e1, hd, hr⟩, fun h' m' hn sb => ?_⟩
  obtain ⟨k1, k2, k3, k4⟩ := hh
  have nB : ∀ b, B.get? b = none → b ≠ ce.locals := fun b e z => by rw [z, hCB] at e; cases e
  have hB' : ∀ b o, (PySem.W.hideAll B [ce.locals]).get? b = some o → B.get? b = some o ∧ b ≠ ce.locals := fun b o e => ⟨PySem.W.of_hideAll _ e, fun z => by
    rw [z, PySem.W.hideAll_none _ (List.mem_singleton.mpr rfl)] at e
    cases e⟩
  have none' : ∀ b, B.get? b = none → (PySem.W.hideAll B [ce.locals]).get? b = none := fun b e => by
    cases q : (PySem.W.hideAll B [ce.locals]).get? b with
    | none => rfl
    | some o => rw [(hB' b o q).1] at e; cases e
  have held : HandSPX.HeldZ (PySem.W.hideAll B [ce.locals]) (e0 :: o0) a (Zc c d) L h' := by
    refine ⟨fun b o e => ?_, none' a k2, funFrames_none (Heap.FunFrames.sameBut sb hn k3) fun b hb => none' b (k3.mem hb).1, ?_⟩
    · rw [sb.2 b (hB' b o e).2]
      exact k1 b o (hB' b o e).1
    · obtain ⟨oe, vs, T, oT, ts, he, hz, hd', h1', hnT, hTe, hT, hdT, h3⟩ := k4
      exact ⟨oe, vs, T, oT, ts, (sb.2 a (nB a k2)).trans he, hz, hd', h1', none' T hnT, hTe, (sb.2 T (nB T hnT)).trans hT, hdT, h3⟩
  have fin : ∀ h2, HandSPX.HeldZ (PySem.W.hideAll B [ce.locals]) (e0 :: o0) a (Zc c d) L h2 → h'.UpToSlots h2 → X.xe (.ref a) { s' with heap := h2 } := fun h2 hh2 up2 => by
    refine tk _ _ ⟨a, PySem.W.hideAll B [ce.locals], { sI with heap := PySem.W.hideAll sI.heap [ce.locals] }, pins, σ, H', c, d, ⟨rfl, ?_, na, os, ag, w⟩, fun b o e hb => ?_, fun b o e hnf => ?_, ?_⟩
    · refine I3.call' (ch := fp) I'.os ⟨fun b o q n hb hx => ?_, fun b o q n hb hx => ?_, I'.base.free, fun b o q hx => ?_, I'.base.tups, I'.base.frzs, I'.base.tbls⟩ (fun b o q => ?_) I'.bare fun b hb => ⟨(f3 b hb).1.2.2.2.1, (f3 b hb).1.2.1, (f3 b hb).1.2.2.2.2.1, (f3 b hb).1.2.2.2.2.2⟩
      · exact PySem.W.hideAll_get _ (I'.base.keep b o q n hb hx) fun hm => by
          have z := Heap.lt_size q
          rw [List.mem_singleton.mp hm, hl] at z
          exact absurd z (Nat.lt_irrefl _)
      · obtain ⟨sl, e⟩ := I'.base.slot b o q n hb hx
        exact ⟨sl, PySem.W.hideAll_get _ e fun hm => by
          have z := Heap.lt_size q
          rw [List.mem_singleton.mp hm, hl] at z
          exact absurd z (Nat.lt_irrefl _)⟩
      · obtain ⟨o', e⟩ := I'.base.there b o q hx
        exact ⟨o', PySem.W.hideAll_get _ e fun hm => by
          have z := Heap.lt_size q
          rw [List.mem_singleton.mp hm, hl] at z
          exact absurd z (Nat.lt_irrefl _)⟩
      · refine (I'.hok b o q).stay (fun c' u hc r => PySem.W.hideAll_get _ r fun hm => ?_) (fun _ r => r) fun _ _ r => r
        rw [List.mem_singleton.mp hm] at hc
        rcases hc with hc | hc
        · rw [← hc, hCH] at q
          cases q
        · rw [hCH] at hc
          cases hc
    · have e2 : sI.heap.get? b = some o := PySem.W.of_hideAll _ e
      exact PySem.W.hideAll_get _ (nb b o e2 hb) fun hm => by
        rw [List.mem_singleton.mp hm, PySem.W.hideAll_none _ (List.mem_singleton.mpr rfl)] at e
        cases e
    · have e2 : sI.heap.get? b = some o := PySem.W.of_hideAll _ e
      have ne : b ≠ ce.locals := fun z => by
        rw [z, PySem.W.hideAll_none _ (List.mem_singleton.mpr rfl)] at e
        cases e
      obtain ⟨sl, e3⟩ := (up.trans up1) b o e2 hnf
      have e4 : h'.get? b = some { o with slots := sl } := (sb.2 b ne).trans e3
      obtain ⟨sl2, e5⟩ := up2 b _ e4 hnf
      exact ⟨sl2, e5⟩
    · rw [es]
      exact ⟨hh2.1, hh2.2.1, hh2.2.2.1, .inr ⟨_, rfl, hh2.2.2.2⟩⟩
  obtain ⟨oe, vs, T, oT, ts, he, hz, hd', h1', hnT, hTe, hT, hdT, h3⟩ := id held.2.2.2
  unfold PySem.passOn
  refine wpAny_bind (wpAny_field he hd' h1' ?_)
  rw [if_neg (show ¬ ((Value.ref T == Value.none) = true) by simp)]
  have last : wpAny (model X.prog X.w) X.A (setFlight (.ref a) ce.frame) (fun _ t => wpAny (model X.prog X.w) X.A (throw (.ref a) : Sem Value) (fun _ _ => False) X.xe t) X.xe { s' with heap := h' } := by
    rw [show ce.frame = some L by rw [hfr, xf]]
    exact HandSPX.setFlight_onZ held fun h2 hh2 up2 => wpAny_throw (fin h2 hh2 up2)
  first
    | exact wpAny_bind (wpAny_pure (wpAny_bind last))
    | exact wpAny_bind last
end
end VW
namespace VW
open PySem PySem.Spec PyProof.Rows L2
/-- a block whose exceptions are wanted so -/
abbrev blkR (X : Cx) (s : Shared) (H : Hp) (scope : Scope) (cs : List (Str × Addr)) (C : Addr) (fp : List Addr) (xe : Value → Shared → Prop) : Cx := (X.blk s H scope (compEnvC scope cs C X.env) fp).wish xe
theorem Air.unwish {X : Cx} {xe : Value → Shared → Prop} {W : WX} {fl : Value → Prop} {u : Value} {t : Shared} (x : Air (X.wish xe) W fl u t) : Air X W fl u t := by
  obtain ⟨a, B, sI, pins, σ, H, c, d, ⟨q1, q2, q3⟩, q⟩ := x
  exact ⟨a, B, sI, pins, σ, H, c, d, ⟨q1, q2.unwish, q3⟩, q⟩
/-- in such a block: what is taken -/
structure Tk (X : Cx) (W : WX) (L : Addr) : Prop where
  tk : Takes X W
  tf : TakesF X W L
  on : OnF X L
/-- [elt for target in iter if ..], exceptions of elt wanted as W says -/
def tLcR (wi : TI) (g : TG) (tt : TT) (te : WX → TE) (W : WX) (vs : List Nat) : TE := fun σ H Q => wi σ H fun J H1 => ∀ D, H1 D = none → ∃ Wv : Nat → Nat → Hp → Prop, (∃ m, Wv 0 m (upd H1 D (.lst []))) ∧ ∀ i m H2, Wv i m H2 →
  (J.stop i H2 ∧ Q (.ref D) H2) ∨ (J.go i H2 ∧ ∃ Nx : Hp → Prop, (∀ H', Nx H' → ∃ m', m' < m ∧ Wv (i + 1) m' H') ∧ ∀ x H', J.yld i H2 x H' → g x (wipe σ vs) H' fun σ2 H3 => wipe σ2 vs = wipe σ vs ∧ tt σ2 H3 fun b H4 =>
    if b = true then te (fun c d _ H => W c d σ H) σ2 H4 fun y H5 => ∃ acc, H5 D = some (.lst acc) ∧ acc.length < sizeLine ∧ Nx (upd H5 D (.lst (acc ++ [y]))) else Nx H4)
theorem lcR_core {X : Cx} {L : Addr} {W : WX} {pins : List (Addr × Obj)} {s : Shared} {σ : L2.St} {H : Hp} {Q : VK} {elt tg iter : Expr} {ifs : List Expr} {scope : Scope} {own : List (Str × Nat)} {pos pos' : Pos} {wi : TI} {g : TG} {tt : TT} {te : WX → TE} {use : Option (Value → Sem Unit)} {Qf : Value → Shared → Prop}
    (calm : X.calm = true) (nd : X.N.Nodup) (on : OnF X L) (tk : TakesF X W L) (I : Inv X pins σ H s) (hi : PI X tg iter wi) (ok : BlkOk X.N X.env.scope scope own)
    (hg : ∀ (s : Shared) (H : Hp) (C : Addr) (cs : List (Str × Addr)) (fp : List Addr), PG (X.blk s H scope (compEnvC scope cs C X.env) fp) tg g)
    (ht : ∀ (s : Shared) (H : Hp) (C : Addr) (cs : List (Str × Addr)) (fp : List Addr), PTs (X.blk s H scope (compEnvC scope cs C X.env) fp) ifs tt)
    (he : ∀ (s : Shared) (H : Hp) (C : Addr) (cs : List (Str × Addr)) (fp : List Addr) (xe : Value → Shared → Prop) (W' : WX), Tk (blkR X s H scope cs C fp xe) W' L → PE (blkR X s H scope cs C fp xe) elt (te W'))
    (hs : ∀ x, foldedSetIterable iter X.env x = pure x) (h : tLcR wi g tt te W (own.map (·.2)) σ H Q)
    (fin : ∀ D C t m H', Inv X pins σ H' t → Q (.ref D) H' → t.heap.Ns C m → FpOk X pins H' C → compPost (model X.prog X.w) X.A X.xe use Qf (.ref D) C (.ok .next) t) :
    wpAny (model X.prog X.w) X.A (comprehension (.ListComp elt [⟨tg, iter, ifs, 0⟩] scope pos) scope X.env pos' (newList []) false (eval iter X.env) use) Qf X.xe s := by
  have cells : ∀ y ∈ scope.names, y.2 = .free → ∃ c, X.env.cells.lookup y.1 = some c := fun y hy e => (ok.free y hy e).elim (fun k => I.ok.has _ (.inl k)) fun k => I.ok.has _ (.inr k)
  refine comp_ends (use := use) rfl hs (closure_ok cells) ok.kind (fun y hy e => by rw [ok.uniq y hy, e]) (thn (hi.run pins s σ H _ I h) fun xv s1 k1 => thn k1 fun itv s2 k2 => ?_)
  obtain ⟨it, fp, tn, J, H2, e, I2, T, st2, f2, q⟩ := k2
  subst e
  refine wpAny_newObj_type (newEnv_comp ?_) (by show 0 ≤ sizeLine; decide)
  generalize hD : s2.heap.objs.size = D
  have nD : H2 D = none := I2.hok.fresh (Nat.le_of_eq hD)
  obtain ⟨Wv, ⟨m0, w0⟩, turn⟩ := q D nD
  generalize hs3 : ({ s2 with heap := s2.heap.push { cls := .type "list", data := .seq ([] : List Value).toArray } } : Shared) = s3
  have h3 : s3.heap = s2.heap.push { cls := .type "list", data := .seq ([] : List Value).toArray } := by rw [← hs3]
  have I3 : Inv X pins σ (upd H2 D (.lst [])) s3 := by
    rw [← hs3]
    refine I2.laid (t' := s2.toks) (fun b o z => Heap.get?_push_of_some _ z) (Nat.le_of_eq hD) ⟨Nat.zero_le _, [], 0, .nil, ?_⟩
    rw [← hD]
    exact Heap.get?_push_size _ rfl
  have small : ∀ b ∈ fp, b < s2.heap.objs.size := fun b hb => let ⟨o, z, _⟩ := T.obj _ _ st2 b hb; Heap.lt_size z
  have f3 : ∀ b ∈ fp, FpOk X pins (upd H2 D (.lst [])) b ∧ b < s3.heap.objs.size := fun b hb => by
    refine ⟨⟨?_, (f2 b hb).2⟩, by rw [h3, Heap.size_push]; exact Nat.lt_succ_of_lt (small b hb)⟩
    rw [upd_ne (by rw [← hD]; exact Nat.ne_of_lt (small b hb))]
    exact (f2 b hb).1
  have st3 : tn 0 s3.heap := T.keep _ _ _ st2 fun b _ o z => by rw [h3]; exact Heap.get?_push_of_some _ z
  have I4 := block_start I3 ok nd f3
  generalize hcs : cellsFrom (s3.heap.objs.size + 1) scope.names (cloFrom X.env.cells scope.names []) = cs at I4
  generalize hH3 : upd H2 D (.lst []) = H3 at I3 I4 w0 f3
  generalize hC : s3.heap.objs.size = C at I4
  have pg := hg s3 H3 C cs fp
  have pt := ht s3 H3 C cs fp
  show codeAny (model X.prog X.w) X.A (.compStart (.ListComp elt [⟨tg, iter, ifs, 0⟩] scope pos) 0 (.ref it) (.ref D) (compEnvC scope cs C X.env)) (endC (model X.prog X.w) X.A X.xe use Qf (.ref D) (compEnvC scope cs C X.env)) { s3 with heap := pushCells (s3.heap.push { cls := .type "dict", data := .dict #[] }) scope.names }
  generalize hR : endC (model X.prog X.w) X.A X.xe use Qf (.ref D) (compEnvC scope cs C X.env) = R
  have air : ∀ u t, Air (X.blk s3 H3 scope (compEnvC scope cs C X.env) fp) (fun c d _ H => W c d σ H) (fun _ => True) u t → notedBy (model X.prog X.w) X.A (compEnvC scope cs C X.env) (fun e t => R (.error e) t) u t := fun u t x => by
    rw [← hR]
    exact block_air (ce := compEnvC scope cs C X.env) on tk I3 f3 hC.symm rfl x
  have pe := he s3 H3 C cs fp (notedBy (model X.prog X.w) X.A (compEnvC scope cs C X.env) (fun e t => R (.error e) t)) (fun c d _ H => W c d σ H)
    ⟨fun u t x => air u t (Air.of_XE x).unwish, fun u t x => air u t x.more.unwish, ⟨on.ex, on.fr⟩⟩
  generalize hY : X.blk s3 H3 scope (compEnvC scope cs C X.env) fp = Y at I4 pg pt pe
  have stat : ∀ {σ' : L2.St} {H' : Hp} {t : Shared}, Inv Y [] σ' H' t → (∀ b ∈ fp, H' b = none) → ∀ b ∈ fp, FpOk Y [] H' b := fun {σ' H' t} I' hn b hb => by
    subst hY
    exact ⟨hn b hb, (I'.ok.exf b hb).1, I'.ok.exfs b hb, .inl hb, fun x c e => (I'.ok.exf b hb).2 x c e, fun p hp => absurd (show p ∈ ([] : List (Addr × Obj)) ++ [] from hp) (by simp)⟩
  have y1 : Y.prog = X.prog := by subst hY; rfl
  have y2 : Y.w = X.w := by subst hY; rfl
  have y3 : Y.K = X.K := by subst hY; rfl
  have y4 : Y.calm = true := by subst hY; exact calm
  have y5 : Y.A = X.A := by subst hY; rfl
  have y6 : Y.env = compEnvC scope cs C X.env := by subst hY; rfl
  generalize hs4 : ({ s3 with heap := pushCells (s3.heap.push { cls := .type "dict", data := .dict #[] }) scope.names } : Shared) = s4 at I4 ⊢
  have st4 : tn 0 s4.heap := T.keep _ _ _ st3 fun b _ o z => by rw [← hs4]; exact pushCells_keeps _ _ _ _ (Heap.get?_push_of_some _ z)
  have nfp : ∀ b ∈ fp, H3 b = none := fun b hb => (f3 b hb).1.1
  have loop : codeAny (model X.prog X.w) X.A (.compLoop (.ListComp elt [⟨tg, iter, ifs, 0⟩] scope pos) 0 (.ref it) (.ref D) (compEnvC scope cs C X.env)) R s4 := by
    refine compLoop_any (fun n t => ∃ i H', Inv Y [] (wipe σ (own.map (·.2))) H' t ∧ tn i t.heap ∧ (∀ b ∈ fp, H' b = none) ∧ Wv i n H') ?_ m0 ⟨0, H3, I4, st4, nfp, w0⟩
    rintro n s5 ⟨i, H5, I5, st5, n5, w5⟩
    rcases turn i n H5 w5 with ⟨stop, qq⟩ | ⟨go, Nx, hNx, step⟩
    · have td := T.done Y y1 y2 y3 y4 i [] s5 _ H5 (fun _ _ => False) I5 (stat I5 n5) st5 stop
      rw [y5] at td
      refine thnF td fun r s6 ⟨hr, I6⟩ => ?_
      subst hr
      subst hY
      have I7 : Inv X pins σ H5 s6 := I3.call' (ch := fp) I6.os I6.base I6.hok I6.bare fun b hb => ⟨(f3 b hb).1.2.2.2.1, (f3 b hb).1.2.1, (f3 b hb).1.2.2.2.2.1, (f3 b hb).1.2.2.2.2.2⟩
      have nC : H5 C = none := I6.free
      obtain ⟨m, hn, _⟩ := I6.loc
      rw [← hR]
      exact fin D C s6 m H5 I7 qq hn (I3.fpOk (Nat.le_of_eq hC) nC)
    · have td := T.item Y y1 y2 y3 y4 i [] s5 _ H5 (fun _ _ => False) I5 (stat I5 n5) st5 go
      rw [y5] at td
      refine thnF td fun r s6 ⟨u, hr, h6⟩ => ?_
      subst hr
      refine thnF h6 fun _ s7 ⟨x, H7, I7, r7, y7, st7, n7⟩ => ?_
      have I7' := I7.pinned (stat I7 n7) (T.obj _ _ st7)
      subst hY
      refine thnF (pg.run _ s7 _ H7 x u _ I7' r7 (step x H7 y7)) fun _ s8 ⟨σ8, H8, I8, hw8, q8⟩ => ?_
      refine thnF (pt.run _ s8 σ8 H8 _ I8 q8) fun b s9 ⟨H9, I9, q9⟩ => ?_
      have last : ∀ {t : Shared} {H' : Hp}, Inv (X.blk s3 H3 scope (compEnvC scope cs C X.env) fp) ([] ++ pinsAt fp s7.heap) σ8 H' t → Nx H' → ∃ m, m < n ∧ ∃ i H', Inv (X.blk s3 H3 scope (compEnvC scope cs C X.env) fp) [] (wipe σ (own.map (·.2))) H' t ∧ tn i t.heap ∧ (∀ b ∈ fp, H' b = none) ∧ Wv i m H' := fun {t H'} I' nx => by
        obtain ⟨m', hm, w'⟩ := hNx H' nx
        have pin' : ∀ b ∈ fp, ∀ o, s7.heap.get? b = some o → t.heap.get? b = some o ∧ H' b = none := fun b hb o z =>
          ⟨(I'.pin (b, o) (List.mem_append_right _ (List.mem_append_right _ (mem_pinsAt hb z)))).1, (I'.pin (b, o) (List.mem_append_right _ (List.mem_append_right _ (mem_pinsAt hb z)))).2.1⟩
        have hl : (wipe σ (own.map (·.2))).length = σ8.length := by rw [← hw8, wipe_length]
        refine ⟨m', hm, i + 1, H', (I'.unpinned (pins := [])).weak hl (fun j v z => ?_), T.keep _ _ _ st7 fun b hb o z => (pin' b hb o z).1, fun b hb => ?_, w'⟩
        · rw [← hw8] at z
          exact (wipe_some z).1
        · obtain ⟨o, z, _⟩ := T.obj _ _ st7 b hb
          exact (pin' b hb o z).2
      cases b with
      | false =>
        simp only [Bool.false_eq_true, if_false] at q9 ⊢
        exact last I9 q9
      | true =>
        simp only [if_true] at q9 ⊢
        refine wpAny_mono (pe.run _ s9 σ8 H9 _ (I9.wish _) q9) (fun z s10 ⟨yv, H10, I10, r10, acc, hD10, hz10, nx⟩ => ?_) fun _ _ z => z
        exact app_ok (X := X.blk s3 H3 scope (compEnvC scope cs C X.env) fp) I10.unwish hD10 hz10 r10 fun s11 I11 => last I11 nx
  exact codeAny_compStart_list loop (T.self X.A 0 _ _ _ st4 loop)
section
variable {X : Cx} {L : Addr} {W : WX} {elt tg iter : Expr} {ifs : List Expr} {scope : Scope} {own : List (Str × Nat)} {pos : Pos} {wi : TI} {g : TG} {tt : TT} {te : WX → TE}
theorem pe_lcR (calm : X.calm = true) (nd : X.N.Nodup) (on : OnF X L) (tk : TakesF X W L) (hi : PI X tg iter wi) (ok : BlkOk X.N X.env.scope scope own)
    (hg : ∀ (s : Shared) (H : Hp) (C : Addr) (cs : List (Str × Addr)) (fp : List Addr), PG (X.blk s H scope (compEnvC scope cs C X.env) fp) tg g)
    (ht : ∀ (s : Shared) (H : Hp) (C : Addr) (cs : List (Str × Addr)) (fp : List Addr), PTs (X.blk s H scope (compEnvC scope cs C X.env) fp) ifs tt)
    (he : ∀ (s : Shared) (H : Hp) (C : Addr) (cs : List (Str × Addr)) (fp : List Addr) (xe : Value → Shared → Prop) (W' : WX), Tk (blkR X s H scope cs C fp xe) W' L → PE (blkR X s H scope cs C fp xe) elt (te W'))
    (hs : ∀ x, foldedSetIterable iter X.env x = pure x := by intro _; rfl) : PE X (.ListComp elt [⟨tg, iter, ifs, 0⟩] scope pos) (tLcR wi g tt te W (own.map (·.2))) := by
  refine ⟨fun pins s σ H Q I h => ?_⟩
  rw [eval_ListComp]
  refine lcR_core calm nd on tk I hi ok hg ht he hs h fun D C t m H' I' q hn f => ⟨m, hn, fun h2 sb => ?_⟩
  exact ⟨.ref D, H', I'.turned (t' := t.toks) (fun b o hb e => (sb.2 b hb).trans e) f.1 f.2.1 f.2.2.2.1 f.2.2.2.2.1 f.2.2.2.2.2, rfl, q⟩
theorem ps_setLcR {i : Nat} {y : Str} {py spos : Pos} (calm : X.calm = true) (nd : X.N.Nodup) (on : OnF X L) (tk : TakesF X W L) (hy : X.N[i]? = some y) (hyl : X.env.scope.names.lookup y = some .local)
    (hsw : swapsWith (.ListComp elt [⟨tg, iter, ifs, 0⟩] scope pos) (some (.Name y py)) spos.line X.env = pure true) (hi : PI X tg iter wi) (ok : BlkOk X.N X.env.scope scope own)
    (hg : ∀ (s : Shared) (H : Hp) (C : Addr) (cs : List (Str × Addr)) (fp : List Addr), PG (X.blk s H scope (compEnvC scope cs C X.env) fp) tg g)
    (ht : ∀ (s : Shared) (H : Hp) (C : Addr) (cs : List (Str × Addr)) (fp : List Addr), PTs (X.blk s H scope (compEnvC scope cs C X.env) fp) ifs tt)
    (he : ∀ (s : Shared) (H : Hp) (C : Addr) (cs : List (Str × Addr)) (fp : List Addr) (xe : Value → Shared → Prop) (W' : WX), Tk (blkR X s H scope cs C fp xe) W' L → PE (blkR X s H scope cs C fp xe) elt (te W'))
    (hs : ∀ x, foldedSetIterable iter X.env x = pure x := by intro _; rfl) : PS X (.Assign [.Name y py] (.ListComp elt [⟨tg, iter, ifs, 0⟩] scope pos) spos) (tAsg (tLcR wi g tt te W (own.map (·.2))) (gName i)) := by
  refine ⟨fun pins s σ H D I h => ?_⟩
  rw [exec_Assign_Name_used _ _ _ _ hsw]
  refine wpAny_bind (wpAny_standAt (wpAny_bind ?_))
  show wpAny _ X.A (do
    let _ ← comprehension (.ListComp elt [⟨tg, iter, ifs, 0⟩] scope pos) scope X.env (firstIterPos [⟨tg, iter, ifs, 0⟩] pos) (newList []) false (eval iter X.env) (some (assign (.Name y py) X.env))) _ _ s
  have h : tLcR wi g tt te W (own.map (·.2)) σ H (fun x H1 => gName i x σ H1 D.nx) := h
  refine wpAny_bind (thn (lcR_core (Qf := fun _ t => SP X pins D .next t) calm nd on tk I hi ok hg ht he hs h fun Da C t m H' I' q hn f => ?_) fun _ t hq => wpAny_pure (wpAny_pure hq))
  show wpAny _ _ (assign (.Name y py) X.env (.ref Da)) _ _ _
  refine wpAny_assign_Name (store_ok2 (v := V.ref Da) I' nd hy (.inl hyl) rfl (fun s2 I2 ⟨a, sb, ha⟩ => ?_) (.inr hyl))
  have ne : C ≠ a := ha.elim (fun z => by rw [z]; exact f.2.1) fun z z2 => f.2.2.2.2.1 y a z z2.symm
  exact ⟨m, hn.sameBut sb ne, fun h3 sb3 => ⟨_, H', I2.turned (t' := s2.toks) (fun b o hb e => (sb3.2 b hb).trans e) f.1 f.2.1 f.2.2.2.1 f.2.2.2.2.1 f.2.2.2.2.2, q⟩⟩
end
end VW
namespace VW
open PySem PySem.Spec PyProof.Rows L2
def addP (ys : List PyData) : Rs (List PyData) → Rs (List PyData)
  | .ok r => .ok (ys ++ r)
  | .er n => .er n
theorem addP_nil (r : Rs (List PyData)) : addP [] r = r := by cases r <;> rfl
theorem addP_add (ys zs : List PyData) (r : Rs (List PyData)) : addP ys (addP zs r) = addP (ys ++ zs) r := by
  cases r with
  | ok l => show Rs.ok (ys ++ (zs ++ l)) = Rs.ok (ys ++ zs ++ l); rw [List.append_assoc]
  | er n => rfl
/-- [f for target in wi], f may raise -/
def mLcR (vs : List Nat) (wi : Rho → M (List PyData)) (g : PyData → Rho → M Rho) (f : Rho → M PyData) : Rho → M (List PyData) := fun ρ => bnd (wi ρ) fun ds =>
  if vs.all (plainAt ρ) = true ∧ ds.length ≤ 16777216 then lcM g mYes f ds (wipeR ρ vs) else none
theorem lcR_cons {g : PyData → Rho → M Rho} {f : Rho → M PyData} {d : PyData} {ds : List PyData} {ρ : Rho} {r : Rs (List PyData)} (ng : NoErG g) (h : lcM g mYes f (d :: ds) ρ = some r) :
    ∃ ρ1, g d ρ = some (.ok ρ1) ∧ ((∃ z r', f ρ1 = some (.ok z) ∧ lcM g mYes f ds ρ = some r' ∧ r = addP [z] r') ∨ ∃ n, f ρ1 = some (.er n) ∧ r = .er n) := by
  have h' : bnd (g d ρ) (fun ρ1 => bnd (f ρ1) fun z => bnd (lcM g mYes f ds ρ) fun zs => ret (z :: zs)) = some r := h
  cases e1 : g d ρ with
  | none => rw [e1] at h'; cases h'
  | some q =>
    cases q with
    | er n => exact absurd e1 (ng d ρ n)
    | ok ρ1 =>
      rw [e1] at h'
      refine ⟨ρ1, rfl, ?_⟩
      have h2 : bnd (f ρ1) (fun z => bnd (lcM g mYes f ds ρ) fun zs => ret (z :: zs)) = some r := h'
      cases e2 : f ρ1 with
      | none => rw [e2] at h2; cases h2
      | some q =>
        cases q with
        | er n =>
          rw [e2] at h2
          cases h2
          exact .inr ⟨n, rfl, rfl⟩
        | ok z =>
          rw [e2] at h2
          have h3 : bnd (lcM g mYes f ds ρ) (fun zs => ret (z :: zs)) = some r := h2
          cases e3 : lcM g mYes f ds ρ with
          | none => rw [e3] at h3; cases h3
          | some r' =>
            rw [e3] at h3
            refine .inl ⟨z, r', rfl, rfl, ?_⟩
            cases r' with
            | ok l => cases h3; rfl
            | er n => cases h3; rfl
section
variable {K : PySem.W.Frag} {Hb : Hp} {L0 : Own} {α : Al} {ρ : Rho} {σ : L2.St} {H H' : Hp}
/-- more addresses that nobody here may name -/
theorem Env.adds (E : Env K Hb L0 α ρ σ H) {P : Own} (hp : ∀ a, P a → H a = none) (s : Same H H') (hd : ∀ a, P a → H' a ≠ none) : Env K Hb (fun a => L0 a ∨ P a) α ρ σ H' := by
  have lof : ∀ a, Lof (fun a => L0 a ∨ P a) α a → Lof L0 α a ∨ P a := fun a h => by
    rcases h with (h | h) | ⟨j, h⟩
    · exact .inl (.inl h)
    · exact .inr h
    · exact .inl (.inr ⟨j, h⟩)
  refine ⟨E.same.trans s, fun a h => ?_, fun i a h => ⟨(E.new i a h).1, fun z => ?_⟩, E.disj, E.len, fun i t e => ?_, E.no⟩
  · rcases lof a h with h | h
    · exact (E.mono s).dom a h
    · exact hd a h
  · rcases z with z | z
    · exact (E.new i a h).2 z
    · exact E.dom a (.inr ⟨i, h⟩) (hp a z)
  · obtain ⟨v, h1, h2⟩ := E.sl i t e
    refine ⟨v, h1, h2.mv (fun a u n q => ⟨fun z => ?_, s a u q⟩) fun a _ u q => s a u q⟩
    rcases lof a z with z | z
    · exact n z
    · rw [hp a z] at q
      cases q
theorem Env.grows {D : Addr} (E : Env K Hb L0 α ρ σ H) (hL : L0 D) (nb : Hb D = none) (nD : ∀ i, D ∉ α i) {o : HO} : Env K Hb L0 α ρ σ (upd H D o) := by
  have keep : ∀ a u, ¬ Lof L0 α a → H a = some u → upd H D o a = some u := fun a u n q => by
    rw [upd_ne (fun z => n (.inl (by rw [z]; exact hL)))]
    exact q
  refine ⟨fun a u q => ?_, fun a h => ?_, E.new, E.disj, E.len, fun i s e => ?_, E.no⟩
  · rw [upd_ne (fun z => by rw [z, nb] at q; cases q)]
    exact E.same a u q
  · by_cases z : a = D
    · rw [z, upd_same]
      exact Option.some_ne_none _
    · rw [upd_ne z]
      exact E.dom a h
  · obtain ⟨v, h1, h2⟩ := E.sl i s e
    refine ⟨v, h1, h2.mv (fun a u n q => ⟨n, keep a u n q⟩) fun a m u q => ?_⟩
    rw [upd_ne (fun z => nD i (by rw [← z]; exact m))]
    exact q
end
def tcF (K : PySem.W.Frag) (cl : Ex → Addr) (W : WX) (f : Rho → M (List PyData)) : TE := fun σ H Q => ∃ Hb L0 α ρ, Env K Hb L0 α ρ σ H ∧ f ρ ≠ none ∧ PostF K cl W (Lof L0 α) σ H (f ρ) Q
theorem GF.can {X : Cx} {cl : Ex → Addr} {W : WX} {e : Expr} {f : Rho → M (List PyData)} (h : GF X cl W e f) : PE X e (tcF X.K cl W f) := by
  obtain ⟨te, p, d⟩ := h
  exact ⟨fun pins s σ H Q I ⟨Hb, L0, α, ρ, E, hne, hq⟩ => p.run pins s σ H Q I (d E hne Q hq)⟩
section
variable {K : PySem.W.Frag} {cl : Ex → Addr} {W : WX} {wi : TI} {gt : TG} {fa : Rho → M (List PyData)} {ts vs : List Nat} {g : PyData → Rho → M Rho} {f : Rho → M PyData} {fr : Rho → M (List PyData)}
theorem den_lcR (hsub : ∀ j ∈ ts, j ∈ vs) (ng : NoErG g) (d0 : DenI K cl W wi fa) (dg : DenG K ts gt g) : DenF K cl W (tLcR wi gt tYes (fun W' => tcE K cl W' f) W vs) (mLcR vs fa g f) := by
  intro Hb L0 α ρ σ H E hne Q hq
  refine d0 E (bnd_ne hne) _ (fun ds J H1 e1 s1 I => ?_) fun n H1 e1 s1 => hq.2 n H1 (bnd_raise e1) s1
  have n1 := bnd_at hne e1
  have q1 : mLcR vs fa g f ρ = _ := bnd_eq e1
  obtain ⟨⟨c1, c2⟩, c3⟩ := if_inv n1
  rw [c3] at n1 q1
  cases hR : lcM g mYes f ds (wipeR ρ vs) with
  | none => exact absurd hR n1
  | some R =>
  rw [hR] at q1
  have E1 := E.mono s1
  intro D hD
  have nD : ∀ i, D ∉ α i := fun i m => E1.dom D (.inr ⟨i, m⟩) hD
  have nb : Hb D = none := E1.same.free hD
  have lofD : ∀ (α' : Al) a, Lof (fun a => L0 a ∨ a = D) α' a → Lof L0 α' a ∨ a = D := fun α' a z => by
    rcases z with (h | h) | ⟨j, h⟩
    · exact .inl (.inl h)
    · exact .inr h
    · exact .inl (.inr ⟨j, h⟩)
  have base : Env K Hb (fun a => L0 a ∨ a = D) α (wipeR ρ vs) (wipe σ vs) (upd H1 D (.lst [])) := (E1.wipe c1).more hD
  refine ⟨fun i m H2 => m + i = ds.length ∧ Env K Hb (fun a => L0 a ∨ a = D) α (wipeR ρ vs) (wipe σ vs) H2 ∧ (∀ a o, a ≠ D → H1 a = some o → H2 a = some o) ∧ ∃ acc ys r, H2 D = some (.lst acc) ∧ IsAll K (fun a => Lof L0 α a ∨ a = D) H2 acc ys ∧ ys.length ≤ i ∧ lcM g mYes f (ds.drop i) (wipeR ρ vs) = some r ∧ R = addP ys r,
    ⟨ds.length, by omega, base, fun a o n q => by rw [upd_ne n]; exact q, [], [], R, upd_same, .nil, Nat.zero_le _, hR, (addP_nil R).symm⟩, ?_⟩
  rintro i m H2 ⟨hm, E2, k2, acc, ys, r, a1, a2, a3, a4, a5⟩
  have s2 : Same H1 H2 := fun a o q => k2 a o (fun z => by rw [z, hD] at q; cases q) q
  have kp : Kp (Lof L0 α) H1 (Lof (fun a => L0 a ∨ a = D) α) H2 := ⟨fun a o _ q => s2 a o q, fun a z => (lofD α a z).elim .inl fun z => .inr (by rw [z]; exact hD)⟩
  by_cases hi : i < ds.length
  · have ed : ds.drop i = ds[i] :: ds.drop (i + 1) := List.drop_eq_getElem_cons hi
    rw [ed] at a4
    obtain ⟨ρ1, b1, b3⟩ := lcR_cons ng a4
    obtain ⟨hgo, hy⟩ := I.item i ds[i] (List.getElem?_eq_getElem hi) _ H2 kp E2.dom
    refine .inr ⟨hgo, fun H3 => Env K Hb (fun a => L0 a ∨ a = D) α (wipeR ρ vs) (wipe σ vs) H3 ∧ (∀ a o, a ≠ D → H1 a = some o → H3 a = some o) ∧ ∃ acc ys r, H3 D = some (.lst acc) ∧ IsAll K (fun a => Lof L0 α a ∨ a = D) H3 acc ys ∧ ys.length ≤ i + 1 ∧ lcM g mYes f (ds.drop (i + 1)) (wipeR ρ vs) = some r ∧ R = addP ys r,
      fun H3 ⟨r1, r2, acc, ys, r, r3⟩ => ⟨m - 1, by omega, by omega, r1, r2, acc, ys, r, r3⟩, fun x H3 y => ?_⟩
    obtain ⟨s3, i3⟩ := hy x H3 y
    refine dg (E2.mono s3) x ds[i] i3 (by rw [b1]; exact Option.some_ne_none _) _ fun ρ4 α4 σ4 H4 e4 E4 k4 s4 o4 => ?_
    rw [b1] at e4
    cases e4
    have hw : wipe σ4 vs = wipe σ vs := by
      rw [← wipe_wipe σ vs]
      exact wipe_eq (fun j hj => (o4.1 j fun z => hj (hsub j z)).1) o4.2
    have s24 : Same H2 H4 := s3.trans s4
    have up : ∀ a, (Lof L0 α a ∨ a = D) → Lof (fun a => L0 a ∨ a = D) α4 a := fun a z => by
      rcases z with (z | ⟨j, z⟩) | z
      · exact .inl (.inl z)
      · by_cases hj : j ∈ ts
        · rw [E.plain (List.all_eq_true.mp c1 j (hsub j hj))] at z
          cases z
        · exact .inr ⟨j, by rw [(o4.1 j hj).2]; exact z⟩
      · exact .inl (.inr z)
    refine ⟨hw, ?_⟩
    show tcE K cl _ f σ4 H4 _
    refine ⟨Hb, _, α4, ρ1, E4, ?_, fun w y H6 e6 s6 i6 => ?_, fun n H6 e6 s6 => ?_⟩
    · rcases b3 with ⟨z, _, b4, _⟩ | ⟨n, b4, _⟩ <;> rw [b4] <;> exact Option.some_ne_none _
    · rcases b3 with ⟨z, r', b4, b5, b6⟩ | ⟨n, b4, _⟩
      · rw [b4] at e6
        cases e6
        have s26 := s24.trans s6
        have len := a2.len
        refine ⟨acc, s26 _ _ a1, szl' (by omega), (E2.mono s26).grow nb nD, fun a o n q => ?_, acc ++ [y], ys ++ [w], r', upd_same, ?_, ?_, b5, by rw [a5, b6, addP_add]⟩
        · rw [upd_ne n]
          exact s26 a o (k2 a o n q)
        · refine ((a2.same s26).append (.cons (i6.anti up) .nil)).mv fun a o n q => ⟨n, ?_⟩
          rw [upd_ne (fun z => n (.inr z))]
          exact q
        · rw [List.length_append, List.length_singleton]
          omega
      · rw [b4] at e6
        cases e6
    · rcases b3 with ⟨z, r', b4, _⟩ | ⟨n', b4, b5⟩
      · rw [b4] at e6
        cases e6
      · rw [b4] at e6
        cases e6
        refine hq.2 _ H6 (q1.trans ?_) (s1.trans (s2.trans (s24.trans s6)))
        rw [a5, b5]
        rfl
  · have ei : i = ds.length := by omega
    subst ei
    rw [List.drop_length] at a4
    have er : r = .ok [] := by
      have a4' : ret ([] : List PyData) = some r := a4
      cases a4'
      rfl
    subst er
    rw [a5] at q1
    have q2 : mLcR vs fa g f ρ = some (.ok ys) := by
      rw [q1]
      show some (Rs.ok (ys ++ [])) = _
      rw [List.append_nil]
    exact .inl ⟨I.stop _ H2 kp, hq.1 ys D acc H2 q2 (s1.free hD) (s1.trans s2) a1 a2⟩
theorem den_lcD (hsub : ∀ j ∈ ts, j ∈ vs) (ng : NoErG g) (d0 : DenI K cl W wi fa) (dg : DenG K ts gt g) : DenD K cl W (tLcR wi gt tYes (fun W' => tcF K cl W' fr) W vs) (mL (mLcR vs fa g (mL fr))) := by
  intro Hb L0 α ρ σ H E hne Q hq
  have hne0 : mLcR vs fa g (mL fr) ρ ≠ none := bnd_ne hne
  refine d0 E (bnd_ne hne0) _ (fun ds J H1 e1 s1 I => ?_) fun n H1 e1 s1 => hq.2 n H1 (bnd_raise (bnd_raise e1)) s1
  have n1 := bnd_at hne0 e1
  have q1 : mLcR vs fa g (mL fr) ρ = _ := bnd_eq e1
  obtain ⟨⟨c1, c2⟩, c3⟩ := if_inv n1
  rw [c3] at n1 q1
  cases hR : lcM g mYes (mL fr) ds (wipeR ρ vs) with
  | none => exact absurd hR n1
  | some R =>
  rw [hR] at q1
  have E1 := E.mono s1
  intro D hD
  have nD : ∀ i, D ∉ α i := fun i m => E1.dom D (.inr ⟨i, m⟩) hD
  have nb : Hb D = none := E1.same.free hD
  have lofD : ∀ (ls : List Addr) (α' : Al) a, Lof (fun a => L0 a ∨ a ∈ D :: ls) α' a → Lof L0 α' a ∨ a ∈ D :: ls := fun ls α' a z => by
    rcases z with (h | h) | ⟨j, h⟩
    · exact .inl (.inl h)
    · exact .inr h
    · exact .inl (.inr ⟨j, h⟩)
  have base : Env K Hb (fun a => L0 a ∨ a ∈ [D]) α (wipeR ρ vs) (wipe σ vs) (upd H1 D (.lst [])) :=
    (E1.wipe c1).adds (fun a m => by rw [List.mem_singleton.mp m]; exact hD) (Same.new hD) fun a m => by rw [List.mem_singleton.mp m, upd_same]; exact Option.some_ne_none _
  have N0 : (D :: ([] : List Addr)).Nodup := by simp
  refine ⟨fun i m H2 => m + i = ds.length ∧ ∃ ls dss r, Env K Hb (fun a => L0 a ∨ a ∈ D :: ls) α (wipeR ρ vs) (wipe σ vs) H2 ∧ (∀ a o, a ≠ D → H1 a = some o → H2 a = some o) ∧ H2 D = some (.lst (ls.map V.ref)) ∧ (D :: ls).Nodup ∧ (∀ a ∈ ls, H1 a = none) ∧
      Rows K (fun a => Lof L0 α a ∨ a ∈ D :: ls) H2 ls dss ∧ dss.length ≤ i ∧ lcM g mYes (mL fr) (ds.drop i) (wipeR ρ vs) = some r ∧ R = addP (dss.map PyData.list) r,
    ⟨ds.length, by omega, [], [], R, base, fun a o n q => by rw [upd_ne n]; exact q, upd_same, N0, fun a m => (nomatch m), .nil, Nat.zero_le _, hR, (addP_nil R).symm⟩, ?_⟩
  rintro i m H2 ⟨hm, ls, dss, r, E2, k2, a1, nd, fresh, a2, a3, a4, a5⟩
  have s2 : Same H1 H2 := fun a o q => k2 a o (fun z => by rw [z, hD] at q; cases q) q
  have kp : Kp (Lof L0 α) H1 (Lof (fun a => L0 a ∨ a ∈ D :: ls) α) H2 := ⟨fun a o _ q => s2 a o q, fun a z => (lofD ls α a z).elim .inl fun z => .inr ((List.mem_cons.mp z).elim (fun z => by rw [z]; exact hD) (fresh a))⟩
  by_cases hi : i < ds.length
  · have ed : ds.drop i = ds[i] :: ds.drop (i + 1) := List.drop_eq_getElem_cons hi
    rw [ed] at a4
    obtain ⟨ρ1, b1, b3⟩ := lcR_cons ng a4
    obtain ⟨hgo, hy⟩ := I.item i ds[i] (List.getElem?_eq_getElem hi) _ H2 kp E2.dom
    refine .inr ⟨hgo, fun H3 => ∃ ls dss r, Env K Hb (fun a => L0 a ∨ a ∈ D :: ls) α (wipeR ρ vs) (wipe σ vs) H3 ∧ (∀ a o, a ≠ D → H1 a = some o → H3 a = some o) ∧ H3 D = some (.lst (ls.map V.ref)) ∧ (D :: ls).Nodup ∧ (∀ a ∈ ls, H1 a = none) ∧
      Rows K (fun a => Lof L0 α a ∨ a ∈ D :: ls) H3 ls dss ∧ dss.length ≤ i + 1 ∧ lcM g mYes (mL fr) (ds.drop (i + 1)) (wipeR ρ vs) = some r ∧ R = addP (dss.map PyData.list) r,
      fun H3 ⟨ls, dss, r, r1⟩ => ⟨m - 1, by omega, by omega, ls, dss, r, r1⟩, fun x H3 y => ?_⟩
    obtain ⟨s3, i3⟩ := hy x H3 y
    refine dg (E2.mono s3) x ds[i] i3 (by rw [b1]; exact Option.some_ne_none _) _ fun ρ4 α4 σ4 H4 e4 E4 k4 s4 o4 => ?_
    rw [b1] at e4
    cases e4
    have hw : wipe σ4 vs = wipe σ vs := by
      rw [← wipe_wipe σ vs]
      exact wipe_eq (fun j hj => (o4.1 j fun z => hj (hsub j z)).1) o4.2
    have s24 : Same H2 H4 := s3.trans s4
    have fne : fr ρ1 ≠ none := fun z => by
      rcases b3 with ⟨_, _, b4, _⟩ | ⟨_, b4, _⟩ <;> (unfold mL at b4; rw [z] at b4; cases b4)
    refine ⟨hw, ?_⟩
    show tcF K cl _ fr σ4 H4 _
    refine ⟨Hb, _, α4, ρ1, E4, fne, fun es p xs H6 e6 hp s6 hx i6 => ?_, fun n H6 e6 s6 => ?_⟩
    · have eL : mL fr ρ1 = some (.ok (.list es)) := bnd_eq e6
      rcases b3 with ⟨z, r', b4, b5, b6⟩ | ⟨n, b4, _⟩
      · rw [b4] at eL
        have ez : z = .list es := by
          injection eL with eL
          injection eL
        subst ez
        have s26 := s24.trans s6
        have len := a2.len
        have nD4 : H4 D ≠ none := by rw [s24 _ _ a1]; exact Option.some_ne_none _
        have nDp : D ≠ p := fun z => nD4 (by rw [z]; exact hp)
        have nlp : ∀ a ∈ ls, a ≠ p := fun a m z => by
          obtain ⟨xs, q⟩ := a2.dom a m
          rw [z] at q
          rw [s24 _ _ q] at hp
          cases hp
        have np2 : H2 p = none := s24.free hp
        have eqL : (fun a => L0 a ∨ a ∈ D :: (ls ++ [p])) = fun a => (L0 a ∨ a ∈ D :: ls) ∨ a = p := by
          funext a
          simp only [List.mem_cons, List.mem_append, List.not_mem_nil, or_false]
          apply propext
          constructor
          · rintro (h | h | h | h)
            · exact .inl (.inl h)
            · exact .inl (.inr (.inl h))
            · exact .inl (.inr (.inr h))
            · exact .inr h
          · rintro ((h | h | h) | h)
            · exact .inl h
            · exact .inr (.inl h)
            · exact .inr (.inr (.inl h))
            · exact .inr (.inr (.inr h))
        have sub : ∀ a, (Lof L0 α a ∨ a ∈ D :: (ls ++ [p])) → (Lof L0 α a ∨ a ∈ D :: ls) ∨ a = p := fun a z => by
          rcases z with z | z
          · exact .inl (.inl z)
          · rcases List.mem_cons.mp z with z | z
            · exact .inl (.inr (by rw [z]; exact List.mem_cons_self))
            · rcases List.mem_append.mp z with z | z
              · exact .inl (.inr (List.mem_cons_of_mem _ z))
              · exact .inr (List.mem_singleton.mp z)
        have up : ∀ a, (Lof L0 α a ∨ a ∈ D :: ls) → Lof (fun a => L0 a ∨ a ∈ D :: ls) α4 a := fun a z => by
          rcases z with (z | ⟨j, z⟩) | z
          · exact .inl (.inl z)
          · by_cases hj : j ∈ ts
            · rw [E.plain (List.all_eq_true.mp c1 j (hsub j hj))] at z
              cases z
            · exact .inr ⟨j, by rw [(o4.1 j hj).2]; exact z⟩
          · exact .inl (.inr z)
        refine ⟨ls.map V.ref, s26 _ _ a1, szl' (by rw [List.length_map]; omega), ls ++ [p], dss ++ [es], r', ?_, fun a o n q => ?_, by rw [upd_same, List.map_append]; rfl, ?_, fun a m => ?_, ?_, ?_, b5, by rw [a5, b6, addP_add, List.map_append]; rfl⟩
        · rw [eqL]
          exact (((E2.mono s24).adds (P := fun a => a = p) (fun a z => by rw [z]; exact hp) s6 fun a z => by rw [z, hx]; exact Option.some_ne_none _)).grows (.inl (.inr List.mem_cons_self)) nb nD
        · rw [upd_ne n]
          exact s26 a o (k2 a o n q)
        · have nd2 := List.nodup_cons.mp nd
          refine List.nodup_cons.mpr ⟨fun z => ?_, List.nodup_append.mpr ⟨nd2.2, by simp, fun a m b mb z => nlp a m (by rw [z]; exact List.mem_singleton.mp mb)⟩⟩
          rcases List.mem_append.mp z with z | z
          · exact nd2.1 z
          · exact nDp (List.mem_singleton.mp z)
        · rcases List.mem_append.mp m with m | m
          · exact fresh a m
          · rw [List.mem_singleton.mp m]
            cases q : H1 p with
            | none => rfl
            | some o => rw [s2 _ _ q] at np2; cases np2
        · refine (a2.mv (fun a o n q => ⟨fun z => ?_, ?_⟩) fun a m o q => ?_).append (.cons ?_ (i6.mv fun a o n q => ⟨fun z => n ?_, ?_⟩) .nil)
          · rcases sub a z with z | z
            · exact n z
            · rw [z, np2] at q
              cases q
          · rw [upd_ne (fun z => n (.inr (by rw [z]; exact List.mem_cons_self)))]
            exact s26 a o q
          · rw [upd_ne (fun z => (List.nodup_cons.mp nd).1 (by rw [← z]; exact m))]
            exact s26 a o q
          · rw [upd_ne (Ne.symm nDp)]
            exact hx
          · rcases sub a z with z | z
            · exact .inl (up a z)
            · exact .inr z
          · rw [upd_ne (fun z => n (.inl (.inl (.inr (by rw [z]; exact List.mem_cons_self)))))]
            exact q
        · rw [List.length_append, List.length_singleton]
          omega
      · rw [b4] at eL
        cases eL
    · have eL : mL fr ρ1 = some (.er n) := bnd_raise e6
      rcases b3 with ⟨z, r', b4, _⟩ | ⟨n', b4, b5⟩
      · rw [b4] at eL
        cases eL
      · rw [b4] at eL
        cases eL
        refine hq.2 _ H6 (bnd_raise (q1.trans ?_)) (s1.trans (s2.trans (s24.trans s6)))
        rw [a5, b5]
        rfl
  · have ei : i = ds.length := by omega
    subst ei
    rw [List.drop_length] at a4
    have er : r = .ok [] := by
      have a4' : ret ([] : List PyData) = some r := a4
      cases a4'
      rfl
    subst er
    rw [a5] at q1
    have q2 : mL (mLcR vs fa g (mL fr)) ρ = some (.ok (.list (dss.map PyData.list))) := by
      refine bnd_eq (q1.trans ?_)
      show some (Rs.ok (dss.map PyData.list ++ [])) = _
      rw [List.append_nil]
    refine .inl ⟨I.stop _ H2 kp, hq.1 _ (D :: ls) (.ref D) H2 q2 (fun a m => ?_) (s1.trans s2) ?_⟩
    · rcases List.mem_cons.mp m with m | m
      · rw [m]; exact s1.free hD
      · exact s1.free (fresh a m)
    · rw [slOf_deep]
      exact ⟨D, ls, rfl, nd, rfl, a1, a2⟩
end
section
variable {X : Cx} {L : Addr} {cl : Ex → Addr} {W : WX} {elt tg iter : Expr} {scope : Scope} {fa : Rho → M (List PyData)} {ts : List Nat} {g : PyData → Rho → M Rho} {f : Rho → M PyData} {fr : Rho → M (List PyData)} {pos : Pos}
theorem gf_lcR (own : List (Str × Nat)) (hc : X.calm = true) (hN : X.N.Nodup) (on : OnF X L) (tk : TakesF X W L) (hi : GI X cl W tg iter fa) (ok : BlkOk X.N X.env.scope scope own) (hsub : ∀ j ∈ ts, j ∈ own.map (·.2)) (ng : NoErG g)
    (hg : ∀ (s : Shared) (H : Hp) (C : Addr) (cs : List (Str × Addr)) (fp : List Addr), GG (X.blk s H scope (compEnvC scope cs C X.env) fp) tg ts g)
    (he : ∀ (s : Shared) (H : Hp) (C : Addr) (cs : List (Str × Addr)) (fp : List Addr) (xe : Value → Shared → Prop) (W' : WX), Tk (blkR X s H scope cs C fp xe) W' L → GE (blkR X s H scope cs C fp xe) cl W' elt f) (hs : ∀ x, foldedSetIterable iter X.env x = pure x := by intro _; rfl) :
    GF X cl W (.ListComp elt [⟨tg, iter, [], 0⟩] scope pos) (mLcR (own.map (·.2)) fa g f) := by
  obtain ⟨wi, p0, d0⟩ := hi
  exact ⟨_, pe_lcR (g := tcG X.K ts g) (tt := tYes) (te := fun W' => tcE X.K cl W' f) (L := L) hc hN on tk p0 ok (fun s H C cs fp => (hg s H C cs fp).can) (fun _ _ _ _ _ => pts_nil) (fun s H C cs fp xe W' t => (he s H C cs fp xe W' t).can) hs, den_lcR hsub ng d0 den_tcG⟩
theorem gd_lc (own : List (Str × Nat)) (hc : X.calm = true) (hN : X.N.Nodup) (on : OnF X L) (tk : TakesF X W L) (hi : GI X cl W tg iter fa) (ok : BlkOk X.N X.env.scope scope own) (hsub : ∀ j ∈ ts, j ∈ own.map (·.2)) (ng : NoErG g)
    (hg : ∀ (s : Shared) (H : Hp) (C : Addr) (cs : List (Str × Addr)) (fp : List Addr), GG (X.blk s H scope (compEnvC scope cs C X.env) fp) tg ts g)
    (he : ∀ (s : Shared) (H : Hp) (C : Addr) (cs : List (Str × Addr)) (fp : List Addr) (xe : Value → Shared → Prop) (W' : WX), Tk (blkR X s H scope cs C fp xe) W' L → GF (blkR X s H scope cs C fp xe) cl W' elt fr) (hs : ∀ x, foldedSetIterable iter X.env x = pure x := by intro _; rfl) :
    GD X cl W (.ListComp elt [⟨tg, iter, [], 0⟩] scope pos) (mL (mLcR (own.map (·.2)) fa g (mL fr))) := by
  obtain ⟨wi, p0, d0⟩ := hi
  exact ⟨_, pe_lcR (g := tcG X.K ts g) (tt := tYes) (te := fun W' => tcF X.K cl W' fr) (L := L) hc hN on tk p0 ok (fun s H C cs fp => (hg s H C cs fp).can) (fun _ _ _ _ _ => pts_nil) (fun s H C cs fp xe W' t => (he s H C cs fp xe W' t).can) hs, den_lcD hsub ng d0 den_tcG⟩
variable {fm : Md} {pu : Bool} {y : Str} {py spos : Pos}
/-- y = [..], a held list of lists -/
theorem gs_setDLc (i : Nat) (own : List (Str × Nat)) (hc : X.calm = true) (hN : X.N.Nodup) (on : OnF X L) (tk : TakesF X W L) (hi : GI X cl W tg iter fa) (ok : BlkOk X.N X.env.scope scope own) (hsub : ∀ j ∈ ts, j ∈ own.map (·.2)) (ng : NoErG g)
    (hg : ∀ (s : Shared) (H : Hp) (C : Addr) (cs : List (Str × Addr)) (fp : List Addr), GG (X.blk s H scope (compEnvC scope cs C X.env) fp) tg ts g)
    (he : ∀ (s : Shared) (H : Hp) (C : Addr) (cs : List (Str × Addr)) (fp : List Addr) (xe : Value → Shared → Prop) (W' : WX), Tk (blkR X s H scope cs C fp xe) W' L → GF (blkR X s H scope cs C fp xe) cl W' elt fr)
    (hsw : swapsWith (.ListComp elt [⟨tg, iter, [], 0⟩] scope pos) (some (.Name y py)) spos.line X.env = pure true) (hy : X.N[i]? = some y := by rfl) (hyl : X.env.scope.names.lookup y = some .local := by rfl) (hs : ∀ x, foldedSetIterable iter X.env x = pure x := by intro _; rfl) :
    GS X cl W fm pu [i] (.Assign [.Name y py] (.ListComp elt [⟨tg, iter, [], 0⟩] scope pos) spos) (sSetD i (mL (mLcR (own.map (·.2)) fa g (mL fr)))) := by
  obtain ⟨wi, p0, d0⟩ := hi
  exact ⟨_, ps_setLcR (g := tcG X.K ts g) (tt := tYes) (te := fun W' => tcF X.K cl W' fr) (L := L) hc hN on tk hy hyl hsw p0 ok (fun s H C cs fp => (hg s H C cs fp).can) (fun _ _ _ _ _ => pts_nil) (fun s H C cs fp xe W' t => (he s H C cs fp xe W' t).can) hs, den_setD i (den_lcD hsub ng d0 den_tcG)⟩
/-- .. read from slot j, which is given up -/
theorem gs_setDLcF (i j : Nat) (own : List (Str × Nat)) (hc : X.calm = true) (hN : X.N.Nodup) (on : OnF X L) (tk : TakesF X W L) (hi : GI X cl W tg iter fa) (ok : BlkOk X.N X.env.scope scope own) (hsub : ∀ j ∈ ts, j ∈ own.map (·.2)) (ng : NoErG g)
    (hg : ∀ (s : Shared) (H : Hp) (C : Addr) (cs : List (Str × Addr)) (fp : List Addr), GG (X.blk s H scope (compEnvC scope cs C X.env) fp) tg ts g)
    (he : ∀ (s : Shared) (H : Hp) (C : Addr) (cs : List (Str × Addr)) (fp : List Addr) (xe : Value → Shared → Prop) (W' : WX), Tk (blkR X s H scope cs C fp xe) W' L → GF (blkR X s H scope cs C fp xe) cl W' elt fr)
    (hsw : swapsWith (.ListComp elt [⟨tg, iter, [], 0⟩] scope pos) (some (.Name y py)) spos.line X.env = pure true) (hy : X.N[i]? = some y := by rfl) (hyl : X.env.scope.names.lookup y = some .local := by rfl) (hs : ∀ x, foldedSetIterable iter X.env x = pure x := by intro _; rfl) :
    GS X cl W fm pu [i] (.Assign [.Name y py] (.ListComp elt [⟨tg, iter, [], 0⟩] scope pos) spos) (sSetD i (mFrzD j (mL (mLcR (own.map (·.2)) fa g (mL fr))))) := by
  obtain ⟨wi, p0, d0⟩ := hi
  exact ⟨_, ps_setLcR (g := tcG X.K ts g) (tt := tYes) (te := fun W' => tcF X.K cl W' fr) (L := L) hc hN on tk hy hyl hsw p0 ok (fun s H C cs fp => (hg s H C cs fp).can) (fun _ _ _ _ _ => pts_nil) (fun s H C cs fp xe W' t => (he s H C cs fp xe W' t).can) hs, den_setD i (den_frzD j (den_lcD hsub ng d0 den_tcG))⟩
/-- y = [..] over values that may raise, plain -/
theorem gs_setLcR (i : Nat) (own : List (Str × Nat)) (hc : X.calm = true) (hN : X.N.Nodup) (on : OnF X L) (tk : TakesF X W L) (hi : GI X cl W tg iter fa) (ok : BlkOk X.N X.env.scope scope own) (hsub : ∀ j ∈ ts, j ∈ own.map (·.2)) (ng : NoErG g)
    (hg : ∀ (s : Shared) (H : Hp) (C : Addr) (cs : List (Str × Addr)) (fp : List Addr), GG (X.blk s H scope (compEnvC scope cs C X.env) fp) tg ts g)
    (he : ∀ (s : Shared) (H : Hp) (C : Addr) (cs : List (Str × Addr)) (fp : List Addr) (xe : Value → Shared → Prop) (W' : WX), Tk (blkR X s H scope cs C fp xe) W' L → GE (blkR X s H scope cs C fp xe) cl W' elt f)
    (hsw : swapsWith (.ListComp elt [⟨tg, iter, [], 0⟩] scope pos) (some (.Name y py)) spos.line X.env = pure true) (hy : X.N[i]? = some y := by rfl) (hyl : X.env.scope.names.lookup y = some .local := by rfl) (hs : ∀ x, foldedSetIterable iter X.env x = pure x := by intro _; rfl) :
    GS X cl W fm pu [i] (.Assign [.Name y py] (.ListComp elt [⟨tg, iter, [], 0⟩] scope pos) spos) (sSet i (mL (mLcR (own.map (·.2)) fa g f))) := by
  obtain ⟨wi, p0, d0⟩ := hi
  exact ⟨_, ps_setLcR (g := tcG X.K ts g) (tt := tYes) (te := fun W' => tcE X.K cl W' f) (L := L) hc hN on tk hy hyl hsw p0 ok (fun s H C cs fp => (hg s H C cs fp).can) (fun _ _ _ _ _ => pts_nil) (fun s H C cs fp xe W' t => (he s H C cs fp xe W' t).can) hs, den_asgF i (den_lcR hsub ng d0 den_tcG)⟩
end
end VW
/-! A def that tells a word of the exception that a suite holds. -/
namespace VW
open PySem PySem.Spec PyProof.Rows L2
/-! ### values made of texts, ints and bools, of the exception at a (slot i) and the text in slot j -/
structure CV (X : Cx) (i : Nat) (a : Addr) (j : Nat) (w : Option Str) (e : Expr) (z : V) : Prop where
  ex : ∃ te, PE X e te ∧ ∀ (σ : L2.St) (H : Hp) (Q : VK), σ[i]? = some (some (.ref a)) → (∀ u, w = some u → σ[j]? = some (some (.str u))) → (∀ H', Same H H' → Q z H') → te σ H Q
def rMul01 : R2 := fun x y H Q => ∃ (z : Str) (k : Bool), x = .str z ∧ y = .int (if k then 1 else 0) ∧ Q (.str (if k then z else Str.empty)) H
theorem op_mul01 {X : Cx} : OpR X (binaryOp .Mult) rMul01 := by
  intro pins s σ H x y v u Q I rx ry h
  obtain ⟨z, k, rfl, rfl, q⟩ := h
  obtain ⟨t, rfl⟩ := rx
  obtain ⟨t', rfl⟩ := ry
  cases k with
  | false =>
    exact PySem.P.mul_str_none (by decide) (by decide) ⟨.str Str.empty, H, I.tok _, ⟨_, rfl⟩, q⟩
  | true =>
    refine PySem.P.mul_str (by decide) (fun _ h => by cases h) (fun _ h => by cases h) ?_
    rw [if_neg (by decide), if_pos (show (((if true = true then 1 else 0 : Int)) == 1 || z.length == 0) = true from rfl)]
    exact ⟨.str z, H, I, ⟨_, rfl⟩, q⟩
section
variable {X : Cx} {i j : Nat} {a : Addr} {w : Option Str} {e f : Expr} {pos p p2 : Pos} {es : List Expr}
theorem cv_e {b : Bool} (h : CE X i a e b) : CV X i a j w e (.bl b) := let ⟨te, p, d⟩ := h; ⟨te, p, fun σ H Q h1 _ hq => d σ H Q h1 hq⟩
theorem cv_str {x : Str} {m : Nat} : CV X i a j w (.Constant (.str x) m pos) (.str x) := ⟨_, pe_str, fun σ H Q _ _ hq => hq H (Same.refl H)⟩
theorem cv_var {u : Str} {n : Str} (hN : X.N[j]? = some n := by rfl) (hv : Vis X.env.scope n := by first | exact Or.inl rfl | exact Or.inr (Or.inl rfl) | exact Or.inr (Or.inr rfl)) (hd : (n == ("__debug__" : Str)) = false := by decide) (hcd : (n == ("__classdict__" : Str)) = false := by decide) :
    CV X i a j (some u) (.Name n pos) (.str u) := ⟨_, pe_var hN hv hd hcd, fun σ H Q _ h2 hq => ⟨_, h2 u rfl, hq H (Same.refl H)⟩⟩
theorem cv_not {b : Bool} (h : CV X i a j w e (.bl b)) : CV X i a j w (.UnaryOp .Not e pos) (.bl (!b)) := by
  obtain ⟨te, p, d⟩ := h
  exact ⟨_, pe_not p, fun σ H Q h1 h2 hq => d σ H _ h1 h2 fun H' s' => ⟨b, rfl, hq H' s'⟩⟩
theorem cv_int {b : Bool} {x : Str} (hm : X.mg x = none) (hv : bootBuiltins x = some (.type "int")) (h : CV X i a j w e (.bl b)) (hg : Gl X x := by rfl) (hn' : x ≠ "__name__" := by decide) (hdb : (x == ("__debug__" : Str)) = false := by decide)
    (he : starEach [e] X.env = (false, eval e X.env) :: starEach [] X.env := by rfl) (hpl : (backTo pos (starEach [] X.env)).any (·.1) = false := by rfl) : CV X i a j w (.Call (.Name x p) [e] [] pos) (.int (if b then 1 else 0)) := by
  obtain ⟨te, p1, d⟩ := h
  exact ⟨_, pe_callTy call_int1 hg hm hv (pa_cons p1 pa_nil he) hn' hdb he hpl, fun σ H Q h1 h2 hq => d σ H _ h1 h2 fun H' s' => .inr ⟨b, rfl, hq H' s'⟩⟩
theorem cv_mul {b : Bool} {x : Str} (h1 : CV X i a j w e (.str x)) (h2 : CV X i a j w f (.int (if b then 1 else 0))) : CV X i a j w (.BinOp e .Mult f pos) (.str (if b then x else Str.empty)) := by
  obtain ⟨te, p1, d1⟩ := h1
  obtain ⟨tf, p2, d2⟩ := h2
  exact ⟨_, pe_op op_mul01 p1 p2, fun σ H Q g1 g2 hq => d1 σ H _ g1 g2 fun H1 s1 => d2 σ H1 _ g1 g2 fun H2 s2 => ⟨x, b, rfl, rfl, hq H2 (s1.trans s2)⟩⟩
theorem cv_add {x y : Str} (hz : x.length + y.length ≤ 1000) (h1 : CV X i a j w e (.str x)) (h2 : CV X i a j w f (.str y)) : CV X i a j w (.BinOp e .Add f pos) (.str (x ++ y)) := by
  obtain ⟨te, p1, d1⟩ := h1
  obtain ⟨tf, p2, d2⟩ := h2
  exact ⟨_, pe_op op_add_str p1 p2, fun σ H Q g1 g2 hq => d1 σ H _ g1 g2 fun H1 s1 => d2 σ H1 _ g1 g2 fun H2 s2 => ⟨x, y, rfl, rfl, szl (by omega), hq H2 (s1.trans s2)⟩⟩
/-- [x, y][k] -/
theorem cv_ix2 {b : Bool} {x y : Str} {m m' : Nat} {q q' : Pos} (h : CV X i a j w f (.int (if b then 1 else 0))) (hs : PlainIx f := by exact fun _ _ => rfl)
    (he : starEach [.Constant (.str x) m q, .Constant (.str y) m' q'] X.env = (false, eval (.Constant (.str x) m q) X.env) :: starEach [.Constant (.str y) m' q'] X.env := by rfl) (he2 : starEach [.Constant (.str y) m' q'] X.env = (false, eval (.Constant (.str y) m' q') X.env) :: starEach [] X.env := by rfl) :
    CV X i a j w (.Subscript (.List [.Constant (.str x) m q, .Constant (.str y) m' q'] p) f pos) (.str (if b then y else x)) := by
  obtain ⟨tf, p2, d2⟩ := h
  refine ⟨_, pe_ix ix_list (pe_lst (pa_cons pe_str (pa_cons pe_str pa_nil he2) he)) p2 hs, fun σ H Q g1 g2 hq => ⟨szl (by show 2 ≤ 16777216; decide), fun l hl => d2 σ _ _ g1 g2 fun H2 s2 => ?_⟩⟩
  refine ⟨l, [.str x, .str y], if b then 1 else 0, .str (if b then y else x), rfl, rfl, SqL.of (s2 _ _ upd_same), ?_, hq H2 ((Same.new hl).trans s2)⟩
  cases b <;> rfl
end
/-! ### statements: the text in slot j set; returned -/
structure CT2 (X : Cx) (i : Nat) (a : Addr) (j : Nat) (w : Option Str) (sts : List Stmt) (r : Str) : Prop where
  ex : ∃ tr, PSs X sts tr ∧ ∀ (σ : L2.St) (H : Hp) (D : Ends), j < σ.length → σ[i]? = some (some (.ref a)) → (∀ u, w = some u → σ[j]? = some (some (.str u))) → (∀ H', Same H H' → D.rt (.str r) H') → tr D σ H
section
variable {X : Cx} {i j : Nat} {a : Addr} {w : Option Str} {e : Expr} {pos p : Pos} {sts : List Stmt} {r : Str}
theorem ct2_ret (h : CV X i a j w e (.str r)) : CT2 X i a j w [.Return (some e) pos] r := by
  obtain ⟨te, p1, d⟩ := h
  exact ⟨_, pss_one (ps_ret p1), fun σ H D _ h1 h2 hq => d σ H _ h1 h2 fun H' s' => hq H' s'⟩
theorem ct2_set {u : Str} {n : Str} (hij : i ≠ j) (hND : X.N.Nodup) (h : CV X i a j w e (.str u)) (h2 : CT2 X i a j (some u) sts r) (hi : X.N[j]? = some n := by rfl) (hx : Loc X.env.scope n := by first | exact .inl rfl | exact .inr rfl) (hs : swapsWith e (some (.Name n p)) pos.line X.env = pure false := by rfl)
    (hf : X.fn n = true ∨ X.env.scope.names.lookup n = some .local := by first | exact .inl rfl | exact .inr rfl) : CT2 X i a j w (.Assign [.Name n p] e pos :: sts) r := by
  obtain ⟨te, p1, d⟩ := h
  obtain ⟨tr, p2, d2⟩ := h2
  refine ⟨_, pss_cons (ps_set hND hi hx p1 hs hf) p2, fun σ H D hl h1 h3 hq => d σ H _ h1 h3 fun H1 s1 => ?_⟩
  refine d2 (σ.set j (some (.str u))) H1 D (by rw [List.length_set]; exact hl) (by rw [List.getElem?_set_ne (Ne.symm hij)]; exact h1) (fun v e => ?_) fun H' s' => hq H' (s1.trans s')
  cases e
  exact List.getElem?_set_self hl
end
theorem CT2.to {X : Cx} {i : Nat} {a : Addr} {j : Nat} {w : Option Str} {sts : List Stmt} {r r' : Str} (h : CT2 X i a j w sts r) (e : r = r') : CT2 X i a j w sts r' := e ▸ h
/-! ### the def -/
/-- called with the exception that is handled, of kind n, it tells g n -/
structure FW (P : Program) (w : World) (K : PySem.W.Frag) (mg : Str → Option Value) (base : Heap) (cl : Ex → Addr) (x : Str) (k : Nat) (g : Ex → Option Str) : Prop where
  ex : ∃ f fd ps, mg x = some (.ref f) ∧ PySem.W.keepIn K (.ref f) = true ∧ Binds K fd ps [] ∧ ps.length = 1 ∧
    ∀ (n : Ex) (word : Str) (A : Around) (outer : List PySem.Env) (s : Shared) (H : Hp) (args : Args) (us : List Value) (Q : VK) (E : XK) (p : Addr × Obj), g n = some word → L2H.RoomH k A → A.handled = some (.ref p.1) → L2H.PinOk outer H s p → Zc (.ref (cl n)) none p.2 → (∃ vs, p.2.data = .fields vs) →
      Env0 P w K mg base A outer s H → BindsTo s fd args (ps.zip us) → Vals [.ref p.1] us → (∀ H', Same H H' → Q (.str word) H') → codeAny (model P w) A (.call (.ref f) args) (CR (L2.CX P w) outer P w H s Q E) s
theorem mark_same {A : Around} {v : Value} (h : A.handled = some v) : A.mark (some v) = A := by
  show ({ A with handled := some v } : Around) = A
  rw [← h]
theorem suite_eq (X : Cx) (a : Addr) (pn : List (Addr × Obj)) (h : X.A.mark (some (.ref a)) = X.A) : X.suite a pn = { X with calm := false, pn := pn, xe := fun _ _ => False } := by
  show ({ X with A := X.A.mark (some (.ref a)), calm := false, pn := pn, xe := fun _ _ => False } : Cx) = _
  rw [h]
section
variable {P : Program} {w : World} {K : PySem.W.Frag} {mg : Str → Option Value} {base : Heap} {cl : Ex → Addr}
theorem fw_of {x qual y : Str} {st : Stmt} {f : Addr} {fd : FuncData} {N : List Str} {k : Nat} {g : Ex → Option Str} (F : Fun K x qual st f fd) (S : FnScope N [y] (defScope st)) (h1 : mg x = some (.ref f)) (hb : Binds K fd [y] []) (hN1 : 1 < N.length)
    (body : ∀ (n : Ex) (word : Str) (cdv : Value) (A : Around) (outer : List PySem.Env) (s : Shared) (H : Hp) (E : XK) (a : Addr) (oe : Obj), g n = some word → Zc (.ref (cl n)) none oe → (∃ vs, oe.data = .fields vs) →
      CT2 ((cxOf (L2.CX P w) P w K mg base N qual (defScope st) f cdv A outer s H E).suite a [(a, oe)]) 0 a 1 none (defBody st) word) :
    FW P w K mg base cl x (k + 1) g := by
  obtain ⟨⟨oc, od, kV, doc, pm, an, cdv, ct, osl, rfl, lk, hcd⟩, kp⟩ := F
  refine ⟨f, _, [y], h1, kp, hb, rfl, fun n word A outer s H args us Q E p hg room hh pin hz hfl e0 hbt hv hq => ?_⟩
  have lim : s.heap.NoLimit := e0.mod.nolimit.keeps fun b o e => (e0.bs b o e).1
  have KX : K.In s.heap := e0.mod.kin.keeps fun b o e => (e0.bs b o e).1
  have par : ∀ z ∈ [y].zip us, (defScope st).names.lookup z.1 = some .local ∨ ((defScope st).names.lookup z.1 = some .cell ∧ ((cellsFrom (s.heap.objs.size + 1) (defScope st).names []).lookup z.1).isSome = true) := fun ⟨nm, v⟩ hy =>
    (S.par nm (List.of_mem_zip hy).1).elim .inl fun q => .inr ⟨q, PySem.W.cellsFrom_some _ _ _ (.inl q)⟩
  refine codeAny_call_function room.depth (KX _ _ lk) rfl S.co S.gen rfl (PySem.W.codeRec_of KX hcd) (hbt _ _ _ _ ?_)
  refine wpAny_newFunctionEnv_cells S.kind par fun env he s1 x1 => ?_
  subst he
  refine ⟨lim.keeps x1.toInCall.keep, codeAny_func ?_⟩
  obtain ⟨tr, ht, hd⟩ := body n word cdv A outer s H E p.1 p.2 hg hz hfl
  have I : Inv (L2H.cxH (L2.CX P w) P w K mg base N qual (defScope st) f cdv A outer s H E p) [] (L2.start N [.ref p.1]) H s1 := L2H.inv_startH S pin e0 rfl hv x1
  have eA : (cxOf (L2.CX P w) P w K mg base N qual (defScope st) f cdv A outer s H E).A.mark (some (.ref p.1)) = (cxOf (L2.CX P w) P w K mg base N qual (defScope st) f cdv A outer s H E).A := by
    exact mark_same hh
  rw [suite_eq _ _ _ eA] at ht
  have hl1 : 1 < (L2.start N [V.ref p.1]).length := by
    unfold L2.start
    rw [List.length_append, List.length_map, List.length_replicate]
    show 1 < 1 + (N.length - 1)
    omega
  have hq2 : tr { nx := fun _ H' => Q .non H', rt := Q } (L2.start N [V.ref p.1]) H := hd (L2.start N [V.ref p.1]) H _ hl1 (by unfold L2.start; rw [List.getElem?_append_left (by simp)]; rfl) (fun u e => nomatch e) hq
  refine wpAny_mono (ht.run [] s1 (L2.start N [V.ref p.1]) H _ (I.wish fun _ _ => False) hq2) (fun fl t hs => ?_) fun _ _ z => False.elim z
  cases fl with
  | ret u =>
    obtain ⟨v, σ', H', J, rv, q⟩ := hs
    exact ⟨v, H', J.os, J.bare, J.base, J.hok, rv, q⟩
  | next =>
    obtain ⟨σ', H', J, q⟩ := hs
    exact ⟨.non, H', J.os, J.bare, J.base, J.hok, rfl, q⟩
  | brk => exact hs.elim fun _ h => h.elim fun _ h => False.elim h.2
  | cont => exact hs.elim fun _ h => h.elim fun _ h => False.elim h.2
/-- return f(e) in a suite -/
theorem cs_retW {X : Cx} {i k : Nat} {a : Addr} {oe : Obj} {pn : List (Addr × Obj)} {x nm : Str} {g : Ex → Option Str} {n : Ex} {word : Str} {p pe pos pos' : Pos} (h : FW X.prog X.w X.K X.mg X.base cl x k g) (hr : Room k X.A) (hg : g n = some word) (hz : Zc (.ref (cl n)) none oe) (hfl : ∃ vs, oe.data = .fields vs)
    (hN : X.N[i]? = some nm := by rfl) (hv : Vis X.env.scope nm := by first | exact Or.inl rfl | exact Or.inr (Or.inl rfl) | exact Or.inr (Or.inr rfl)) (hd : (nm == ("__debug__" : Str)) = false := by decide) (hcd : (nm == ("__classdict__" : Str)) = false := by decide)
    (hgl : Gl X x := by rfl) (hdb : (x == ("__debug__" : Str)) = false := by decide)
    (he : starEach [.Name nm pe] (X.suite a ((a, oe) :: pn)).env = (false, eval (.Name nm pe) (X.suite a ((a, oe) :: pn)).env) :: starEach [] (X.suite a ((a, oe) :: pn)).env := by rfl) (hpl : (backTo pos (starEach [] (X.suite a ((a, oe) :: pn)).env)).any (·.1) = false := by rfl) :
    CS (X.suite a ((a, oe) :: pn)) i a (.Return (some (.Call (.Name x p) [.Name nm pe] [] pos)) pos') (some (.str word)) := by
  obtain ⟨f, fd, ps, h1, h2, h3, h4, h5⟩ := h
  refine ⟨_, ps_ret (te := fun σ H Q => σ[i]? = some (some (.ref a)) ∧ ∀ H', Same H H' → Q (.str word) H') ⟨fun pins s σ H Q I ⟨q1, q2⟩ => ?_⟩, fun σ H D hs hq => ⟨hs, fun H' s' => hq _ H' s' fun _ _ _ => .str word⟩⟩
  refine wpAny_Call_Name_kw (ld_glob I hgl h1 ?_ hdb)
  refine PySem.W.callWith_K (h₀ := X.base) I.ok.mod.kin h2 (thn ((pa_cons (X := X.suite a ((a, oe) :: pn)) (pe_var (X := X.suite a ((a, oe) :: pn)) hN hv hd hcd) pa_nil he).run pos pins s σ H (fun vs H1 => vs = [.ref a] ∧ H1 = H) I ⟨_, q1, rfl, rfl⟩) fun us s1 ⟨vs, H1, I1, r, q⟩ => ⟨I1.kIn, ?_⟩) he hpl
  obtain ⟨e1, e2⟩ := q
  subst e1 e2
  have P1 := I1.pin (a, oe) (List.mem_append_left _ List.mem_cons_self)
  have hl : (us ++ []).length = ps.length := by rw [h4, List.append_nil, ← r.length]; rfl
  have b := h3 s1 us I1.kIn hl
  rw [List.append_nil] at b
  refine wpAny_call (codeAny_mono (h5 n word (X.suite a ((a, oe) :: pn)).A (X.suite a ((a, oe) :: pn)).stack s1 H1 ⟨us, []⟩ us Q (fun _ _ _ => False) (a, oe) hg ⟨hr.dp, hr.un⟩ rfl ⟨P1.1, P1.2.1, fun hm => (List.mem_cons.mp (I1.stkSub a hm)).elim P1.2.2.1 P1.2.2.2.1, P1.2.2.2.2⟩ hz hfl I1.env0 b r q2) fun r' t hq => ?_)
  cases r' with
  | error e =>
    obtain ⟨_, _, _, _, _, _, _, _, _, _, _, _, z⟩ := hq
    exact False.elim z
  | ok fl =>
    cases fl with
    | ret u => exact I1.after hq
    | next => exact False.elim hq
    | brk => exact False.elim hq
    | cont => exact False.elim hq
end
end VW
/-! More constructs. -/
namespace VW
open PySem PySem.Spec PyProof.Rows L2
def minL : Int → List Int → Int
  | m, [] => m
  | m, x :: r => minL (if x < m then x else m) r
theorem minL_le : ∀ (l : List Int) (m : Int), minL m l ≤ m ∧ ∀ y ∈ l, minL m l ≤ y
  | [], m => ⟨Int.le_refl _, fun y hy => nomatch hy⟩
  | x :: r, m => by
    have ih := minL_le r (if x < m then x else m)
    have h : (if x < m then x else m) ≤ m ∧ (if x < m then x else m) ≤ x := by split <;> omega
    refine ⟨Int.le_trans ih.1 h.1, fun y hy => ?_⟩
    rcases List.mem_cons.mp hy with rfl | hy
    · exact Int.le_trans ih.1 h.2
    · exact ih.2 y hy
theorem minL_mem : ∀ (l : List Int) (m : Int), minL m l = m ∨ minL m l ∈ l
  | [], m => .inl rfl
  | x :: r, m => by
    rcases minL_mem r (if x < m then x else m) with h | h
    · by_cases c : x < m
      · rw [if_pos c] at h
        exact .inr (by show minL (if x < m then x else m) r ∈ x :: r; rw [if_pos c, h]; exact List.mem_cons_self)
      · rw [if_neg c] at h
        exact .inl (by show minL (if x < m then x else m) r = m; rw [if_neg c, h])
    · exact .inr (List.mem_cons_of_mem _ h)
def pyMin1 : List PyData → M PyData
  | [d] => match lstOf d with
    | some ds => match intsOf ds with
      | some (x :: r) => ret (.int (minL x r))
      | _ => none
    | none => none
  | _ => none
theorem ge_min1 {X : Cx} {cl : Ex → Addr} {W : WX} {e : Expr} {fa : Rho → M (List PyData)} {p pos : Pos} (hcalm : X.calm = true) (hm : X.mg "min" = none) (ha : GA X cl W [e] fa) (hg : Gl X "min" := by rfl) (he : starEach [e] X.env = (false, eval e X.env) :: starEach [] X.env := by rfl) : GE X cl W (.Call (.Name "min" p) [e] [] pos) (mCall pyMin1 fa) := by
  refine ge_callB (cr_min hcalm) (fun L H vs ds z hL i hz Q hq => ?_) (fun d n => ?_) hm (by decide +kernel) ha hg (by decide) (by decide) he rfl
  · unfold pyMin1 at hz
    split at hz
    · rename_i d
      cases e1 : lstOf d with
      | none => rw [e1] at hz; cases hz
      | some es =>
        rw [e1] at hz
        dsimp only at hz
        cases e2 : intsOf es with
        | none => rw [e2] at hz; cases hz
        | some ns =>
          rw [e2] at hz
          cases ns with
          | nil => cases hz
          | cons x r =>
            dsimp only at hz
            have e3 := ret_ok hz
            subst e3
            obtain ⟨v, rfl, iv⟩ := i.one
            obtain ⟨a, xs, rfl, h1, h2⟩ := iv.lstK e1
            have e4 := intsOf_is e2 h1
            subst e4
            refine ⟨a, x :: r, rfl, h2 L H (Kp.refl _ _), Nat.succ_pos _, fun m hm1 hm2 => ?_⟩
            have le := minL_le r x
            have em : m = minL x r := by
              have l1 : minL x r ≤ m := by
                rcases List.mem_cons.mp hm1 with rfl | hm1
                · exact le.1
                · exact le.2 m hm1
              have l2 : m ≤ minL x r := by
                rcases minL_mem r x with h | h
                · rw [h]; exact hm2 x List.mem_cons_self
                · exact hm2 _ (List.mem_cons_of_mem _ h)
              omega
            rw [em]
            exact hq _ H (Same.refl H) (.int _)
    · cases hz
  · unfold pyMin1
    split
    · split
      · split
        · exact ret_er
        · exact none_er
      · exact none_er
    · exact none_er
section
variable {X : Cx} {cl : Ex → Addr} {W : WX} {a b e : Expr} {f g : Rho → M PyData} {fa : Rho → M (List PyData)} {pos p : Pos} {x : Str}
/-- a new list: ds * k -/
def mRep (f g : Rho → M PyData) : Rho → M (List PyData) := fun ρ => bnd (f ρ) fun d => bnd (g ρ) fun e => match d, e with
  | .list xs, .int k => if k ≤ 16777216 ∧ -16777216 ≤ k ∧ xs.length * k.toNat ≤ 16777216 then ret (List.replicate k.toNat xs).flatten else none
  | _, _ => none
theorem gf_rep (ha : GE X cl W a f) (hb : GE X cl W b g) : GF X cl W (.BinOp a .Mult b pos) (mRep f g) := by
  obtain ⟨ta, p1, d1⟩ := ha
  obtain ⟨tb, p2, d2⟩ := hb
  refine ⟨_, pe_op op_rep p1 p2, fun {Hb L0 α ρ σ H} E hne Q hq => d1 E (bnd_ne hne) _ ⟨fun d v H1 e1 s1 i1 => ?_, fun n H1 e1 s1 => hq.2 n H1 (bnd_raise e1) s1⟩⟩
  have n1 := bnd_at hne e1
  have q1 : mRep f g ρ = _ := bnd_eq e1
  refine d2 (E.mono s1) (bnd_ne n1) _ ⟨fun z w H2 e2 s2 i2 => ?_, fun n H2 e2 s2 => hq.2 n H2 (q1.trans (bnd_raise e2)) (s1.trans s2)⟩
  have n2 := bnd_at n1 e2
  have q2 := q1.trans (bnd_eq e2)
  split at n2
  · rename_i ds k
    obtain ⟨⟨c1, c2, c3⟩, c4⟩ := if_inv n2
    obtain ⟨l, xs, rfl, na, h3, h4⟩ := (i1.same s2).lstD
    have ek := i2.intD
    refine ⟨l, k, xs, rfl, ek, h3, by omega, by omega, szl (by rw [h4.len]; exact c3), fun p hp => hq.1 _ p _ _ (q2.trans c4) ((s1.trans s2).free hp) ((s1.trans s2).trans (Same.new hp)) upd_same ((h4.rep k.toNat).upd hp)⟩
  · exact absurd rfl n2
/-- {k: v}, k an int: some dict -/
def mDictI (g : Rho → M PyData) : Rho → M PyData := fun ρ => bnd (g ρ) fun _ => ret (.dict [])
theorem ge_dictI {k : Int} {j : Nat} {q : Pos} (hb : GE X cl W b g) : GE X cl W (.Dict [some (.Constant (.int k) j q)] [b] pos) (mDictI g) := by
  obtain ⟨tb, p2, d2⟩ := hb
  refine ⟨_, pe_disp (pps_cons pe_int p2 pps_nil) rfl rfl (by simp) (by show 1 ≤ 15; decide), fun {Hb L0 α ρ σ H} E hne Q hq p hp => ?_⟩
  show tC (.int k) σ _ _
  have s0 : Same H (upd H p (.dK [])) := Same.new hp
  refine d2 (E.mono s0) (bnd_ne hne) _ ⟨fun d v H1 e1 s1 i1 => ?_, fun n H1 e1 s1 => hq.2 n H1 (bnd_raise e1) (s0.trans s1)⟩
  refine ⟨s1 _ _ upd_same, [(.inl k, v)], rfl, Nat.le_of_ble_eq_true rfl, hq.1 (.dict []) (.ref p) _ (bnd_eq e1) (fun a o q => ?_) (.dct (fun z => E.dom p z hp) upd_same)⟩
  have ne : a ≠ p := ne_of_none q hp
  rw [upd_ne ne]
  exact s1 a o (s0 a o q)
/-- int(b), int(i) -/
def pyInt : List PyData → M PyData
  | [.int i] => ret (.int i)
  | [.bool b] => ret (.int (if b then 1 else 0))
  | _ => none
theorem ge_intOf (hm : X.mg "int" = none) (ha : GA X cl W [e] fa) (hg : Gl X "int" := by rfl) (he : starEach [e] X.env = (false, eval e X.env) :: starEach [] X.env := by rfl) : GE X cl W (.Call (.Name "int" p) [e] [] pos) (mCall pyInt fa) := by
  refine ge_callTy call_int1 (fun L H vs ds z hL i hz Q hq => ?_) (fun d n => ?_) hm (by decide +kernel) ha hg (by decide) (by decide) he rfl
  · unfold pyInt at hz
    split at hz
    · have e3 := ret_ok hz
      subst e3
      obtain ⟨v, rfl, iv⟩ := i.one
      cases iv
      exact .inl ⟨_, rfl, hq _ H (Same.refl H) (.int _)⟩
    · have e3 := ret_ok hz
      subst e3
      obtain ⟨v, rfl, iv⟩ := i.one
      cases iv
      exact .inr ⟨_, rfl, hq _ H (Same.refl H) (.int _)⟩
    · cases hz
  · unfold pyInt
    split
    · exact ret_er
    · exact ret_er
    · exact none_er
end
theorem ng_tgN {i : Nat} : NoErG (tgN i) := fun d ρ n => ret_er
section
variable {P : Program} {w : World} {K : PySem.W.Frag} {mg : Str → Option Value} {base : Heap} {N : List Str} {qual : Str} {sc : Scope} {f : Addr} {cdv : Value} {A : Around} {outer : List PySem.Env} {s : Shared} {H : Hp} {E : XK}
theorem tf_def : TakesF (cxOf (L2.CX P w) P w K mg base N qual sc f cdv A outer s H E) (WF E) s.heap.objs.size := VW.Takes.f tk_def rfl
theorem on_def : OnF (cxOf (L2.CX P w) P w K mg base N qual sc f cdv A outer s H E) s.heap.objs.size := ⟨⟨_, _, rfl, rfl⟩, rfl⟩
end
/-- nothing is stored -/
def Nst (s : Rho → M Out) : Prop := ∀ ρ ρ', s ρ = some (.ok (.nx ρ')) → ρ' = ρ
theorem nst_nx : Nst sNx := fun ρ ρ' h => by
  have e := ret_ok h
  injection e with e
  exact e.symm
theorem nst_ret {f : Rho → M PyData} : Nst (sRet f) := fun ρ ρ' h => by
  obtain ⟨d, _, e⟩ := bnd_ok_inv h
  have e := ret_ok e
  cases e
theorem nst_retI {f : Rho → M PyData} : Nst (sRetI f) := fun ρ ρ' h => by
  obtain ⟨d, _, e⟩ := bnd_ok_inv h
  split at e
  · have e := ret_ok e
    cases e
  · cases e
theorem nst_if {t : Rho → M Bool} {s u : Rho → M Out} (hs : Nst s) (hu : Nst u) : Nst (sIf t s u) := fun ρ ρ' h => by
  obtain ⟨b, _, e⟩ := bnd_ok_inv h
  cases b with
  | true => exact hs ρ ρ' e
  | false => exact hu ρ ρ' e
theorem gss_consN {X : Cx} {cl : Ex → Addr} {W : WX} {fr : Md} {pu : Bool} {st : Stmt} {rest : List Stmt} {s u : Rho → M Out} {t1 t2 : List Nat} (hs : Nst s) (h1 : GS X cl W fr pu t1 st s) (h2 : GSs X cl W fr pu t2 rest u) : GSs X cl W fr pu (t1 ++ t2) (st :: rest) (sSeq s u) := gss_cons' (fun _ => hs) h1 h2
end VW
namespace VW
open PySem PySem.Spec PyProof.Rows L2
theorem gd_nil {X : Cx} {cl : Ex → Addr} {W : WX} {pos : Pos} : GD X cl W (.List [] pos) (mL (mLst mNil)) := by
  obtain ⟨te, p, d⟩ := gf_lst (X := X) (cl := cl) (W := W) (pos := pos) ga_nil
  refine ⟨te, p, fun {Hb L0 α ρ σ H} E hne Q hq => d E (bnd_ne hne) Q ⟨fun ds p xs H' e1 hp s1 hx i1 => ?_, fun n H' e1 s1 => hq.2 n H' (bnd_raise e1) s1⟩⟩
  have e2 : ds = [] := by
    have e3 : mLst mNil ρ = ret [] := rfl
    rw [e3] at e1
    exact (ret_ok e1).symm
  subst e2
  cases i1
  refine hq.1 (.list []) [p] (.ref p) H' (bnd_eq e1) (fun a m => by rw [List.mem_singleton.mp m]; exact hp) s1 ?_
  exact ⟨p, [], rfl, by simp, rfl, hx, .nil⟩
end VW
namespace VW
open PySem PySem.Spec PyProof.Rows L2
theorem gss_never {X : Cx} {cl : Ex → Addr} {W : WX} {fr : Md} {pu : Bool} : ∀ {sts : List Stmt}, GSs X cl W fr pu [] sts sNever
  | [] => ⟨_, pss_nil, fun E l0 hne => absurd rfl hne⟩
  | st :: sts => by
    obtain ⟨tr, p, d⟩ := gss_never (X := X) (cl := cl) (W := W) (fr := fr) (pu := pu) (sts := sts)
    exact ⟨_, pss_cons ps_never p, fun E l0 hne => absurd rfl hne⟩
end VW
namespace VW
open PySem PySem.Spec PyProof.Rows L2
/-- tuple(xs), of a list -/
def pyTupleOf : List PyData → M PyData
  | [.list ds] => ret (.tuple ds)
  | _ => none
theorem ge_tuple {X : Cx} {cl : Ex → Addr} {W : WX} {e : Expr} {fa : Rho → M (List PyData)} {p pos : Pos} (hm : X.mg "tuple" = none) (ha : GA X cl W [e] fa) (hg : Gl X "tuple" := by rfl) (he : starEach [e] X.env = (false, eval e X.env) :: starEach [] X.env := by rfl) : GE X cl W (.Call (.Name "tuple" p) [e] [] pos) (mCall pyTupleOf fa) := by
  refine ge_callTy call_tuple_of (fun L H vs ds z hL i hz Q hq => ?_) (fun d n => ?_) hm (by decide +kernel) ha hg (by decide) (by decide) he rfl
  · unfold pyTupleOf at hz
    split at hz
    · have e3 := ret_ok hz
      subst e3
      obtain ⟨v, rfl, iv⟩ := i.one
      obtain ⟨a, xs, rfl, na, h1, h2⟩ := iv.lstD
      exact ⟨a, xs, rfl, .inl ⟨SqL.of h1, fun l hl => hq (.ref l) _ (Same.new hl) (Is.newT hL hl h2)⟩⟩
    · cases hz
  · unfold pyTupleOf
    split
    · exact ret_er
    · exact none_er
end VW
namespace VW
open PySem PySem.Spec PyProof.Rows L2
/-- a statement ahead of which slot i is given up -/
theorem gs_frz {X : Cx} {cl : Ex → Addr} {W : WX} {fr : Md} {t1 : List Nat} {st : Stmt} {s : Rho → M Out} (i : Nat) (h : GS X cl W fr false t1 st s) : GS X cl W fr false t1 st (sFrz i s) := by
  obtain ⟨ts, p, d⟩ := h
  refine ⟨ts, p, fun {Hb L0 α ρ σ H} E l0 hne D hq => ?_⟩
  obtain ⟨α', E', l⟩ := E.frz i
  have k0 : Kp (Lof L0 α) H (Lof L0 α') H := ⟨fun _ _ _ q => q, fun a z => .inl (l a z)⟩
  exact d E' l0 hne D ⟨fun ρ2 α2 σ2 H2 e2 E2 k2 => hq.nx ρ2 α2 σ2 H2 e2 E2 (Kps.pre k0 k2), fun ρ2 α2 σ2 H2 e2 E2 k2 => hq.bk ρ2 α2 σ2 H2 e2 E2 (Kps.pre k0 k2), fun ρ2 α2 σ2 H2 e2 E2 k2 => hq.ct ρ2 α2 σ2 H2 e2 E2 (Kps.pre k0 k2), hq.rt, fun n σ2 H2 e2 s2 _ => hq.er n σ2 H2 e2 s2 fun z => nomatch z⟩
end VW
namespace VW
open PySem PySem.Spec PyProof.Rows L2
/-- xs[::-1], of a list -/
def mRevL (f : Rho → M PyData) : Rho → M (List PyData) := fun ρ => bnd (f ρ) fun d => match d with
  | .list ds => ret ds.reverse
  | _ => none
theorem gf_revL {X : Cx} {cl : Ex → Addr} {W : WX} {e : Expr} {f : Rho → M PyData} {k : Nat} {p1 p2 p3 pos : Pos} (he : GE X cl W e f) : GF X cl W (.Subscript e (.Slice none none (some (.UnaryOp .USub (.Constant (.int 1) k p1) p2)) p3) pos) (mRevL f) := by
  obtain ⟨te, p, d⟩ := he
  refine ⟨_, pe_revL p, fun {Hb L0 α ρ σ H} E hne Q hq => d E (bnd_ne hne) _ ⟨fun z v H1 e1 s1 i1 => ?_, fun n H1 e1 s1 => hq.2 n H1 (bnd_raise e1) s1⟩⟩
  have n1 := bnd_at hne e1
  have q1 : mRevL f ρ = _ := bnd_eq e1
  cases z with
  | list ds =>
    obtain ⟨a, xs, rfl, na, h1, h2⟩ := i1.lstD
    exact ⟨a, xs, rfl, SqL.of h1, fun p hp => hq.1 _ p _ _ q1 (s1.free hp) (s1.trans (Same.new hp)) upd_same (h2.reverse.upd hp)⟩
  | _ => exact absurd rfl n1
end VW
namespace VW
open PySem PySem.Spec PyProof.Rows L2
theorem gs_holdD {X : Cx} {cl : Ex → Addr} {W : WX} {t1 : List Nat} {st : Stmt} {s : Rho → M Out} (h : GS X cl W .dp false t1 st s) : GS X cl W .dp false t1 st (sHold t1 s) := by
  obtain ⟨tr, p, d⟩ := h
  refine ⟨tr, p, fun {Hb L0 α ρ σ H} E l0 hne D hq => ?_⟩
  obtain ⟨c1, c2⟩ := if_inv hne
  have n1 := hne
  have q0 : sHold t1 s ρ = _ := c2
  rw [show sHold t1 s ρ = _ from c2] at n1
  refine d E.frzA (fun a z => E.dom a (.inl z)) (bnd_ne n1) D ⟨fun ρ' α' σ' H' e1 E1 k1 => ?_, fun ρ' α' σ' H' e1 E1 k1 => ?_, fun ρ' α' σ' H' e1 E1 k1 => ?_, fun z v H' e1 r1 => ?_, fun n σ' H' e1 s1 _ => hq.er n σ' H' (q0.trans (bnd_raise e1)) (E.same.trans s1) fun z => nomatch z⟩
  · have n2 := bnd_at n1 e1
    obtain ⟨c3, c4⟩ := if_inv n2
    have hl : σ'.length = σ.length := by rw [← E1.len, c3, E.len]
    obtain ⟨E2, sm⟩ := E.back E1 k1 c1 hl
    exact hq.nx _ α σ' H' (q0.trans ((bnd_eq e1).trans c4)) E2 ⟨Kp.of_same sm, k1.2⟩
  · exact absurd rfl (bnd_at n1 e1)
  · exact absurd rfl (bnd_at n1 e1)
  · have n2 := bnd_at n1 e1
    obtain ⟨c3, c4⟩ := if_inv n2
    have ei : slOf z = .imm z := by
      rcases slOf_cases z with e | ⟨dss, rfl, _⟩
      · exact e
      · cases c3
    obtain ⟨s1, as, _, sl⟩ := r1
    rw [ei] at sl
    refine hq.rt z v H' (q0.trans ((bnd_eq e1).trans c4)) ⟨E.same.trans s1, [], fun a m => (nomatch m), ?_⟩
    rw [ei]
    exact ⟨rfl, Is.atm sl.2 c3⟩
end VW
/-! Texts: split, join, startswith, str(int), int(text). -/
namespace VW
open PySem PySem.Spec PyProof.Rows L2
theorem if_inv' {α : Type} {c : Prop} [Decidable c] {m : M α} {r : Rs α} (h : (if c then m else none) = some r) : c ∧ m = some r := by
  by_cases hc : c
  · exact ⟨hc, by rw [if_pos hc] at h; exact h⟩
  · rw [if_neg hc] at h
    cases h
/-- a method of a text, of one argument -/
def mM (op : Str → PyData → M PyData) (f g : Rho → M PyData) : Rho → M PyData := fun ρ => bnd (f ρ) fun x => match x with
  | .str a => bnd (g ρ) (op a)
  | _ => none
def strsOf : List PyData → Option (List Str)
  | [] => some []
  | .str z :: r => (strsOf r).map (z :: ·)
  | _ => none
def pySplit (a : Str) : PyData → M PyData
  | .str b => if (b.length == 0) = false ∧ a.length + 2 ≤ 16777216 then ret (.list ((Txt.split a b).map .str)) else none
  | _ => none
def pyJoin (a : Str) (d : PyData) : M PyData := match lstOf d with
  | some ds => match strsOf ds with
    | some ys => if (ys.map (·.length)).sum + ys.length * a.length ≤ 16777216 then ret (.str (Txt.join a ys)) else none
    | none => none
  | none => none
def pyStartswith (a : Str) : PyData → M PyData
  | .str b => ret (.bool (Txt.startswith a b))
  | _ => none
theorem strsOf_is {K : PySem.W.Frag} {L : Own} {H : Hp} : ∀ {ds : List PyData} {ys : List Str} {vs : List V}, strsOf ds = some ys → IsAll K L H vs ds → vs = ys.map V.str
  | [], ys, vs, h, i => by
    cases i
    cases h
    rfl
  | d :: ds, ys, vs, h, i => by
    cases i with
    | cons i1 i2 =>
      cases d with
      | str k =>
        cases e : strsOf ds with
        | none => simp [strsOf, e] at h
        | some r =>
          simp [strsOf, e] at h
          subst h
          cases i1
          rw [strsOf_is e i2]
          rfl
      | _ => simp [strsOf] at h
theorem isAll_strs {K : PySem.W.Frag} {L : Own} {H : Hp} : ∀ ys : List Str, IsAll K L H (ys.map V.str) (ys.map PyData.str)
  | [] => .nil
  | y :: ys => .cons (.str y) (isAll_strs ys)
section
variable {X : Cx} {cl : Ex → Addr} {W : WX} {o e : Expr} {f g : Rho → M PyData} {fa : Rho → M (List PyData)} {apos pos p : Pos}
theorem ge_m1 {id : String} {name : Str} {r : V → List V → Hp → VK → Prop} {op : Str → PyData → M PyData} (slot : Slot "str" name id) (ty : typeOf (.builtin id) = pure (.type "method_descriptor")) (rule : MtR X id r)
    (hr : ∀ (L : Own) (H : Hp) (a : Str) (y : V) (d z : PyData), (∀ b, L b → H b ≠ none) → Is X.K L H y d → op a d = some (.ok z) → ∀ Q : VK, (∀ v H', Same H H' → Is X.K L H' v z → Q v H') → r (.str a) [y] H Q) (hn : ∀ a d n, op a d ≠ some (.er n))
    (ho : GE X cl W o f) (he : GE X cl W e g)
    (hs : starEach [e] X.env = [(false, eval e X.env)] := by rfl) (hbase : attributeBase o name X.env (eval o X.env) = eval o X.env := by rfl) (hline : (apos.endLine == pos.line) = true := by rfl) :
    GE X cl W (.Call (.Attribute o name apos) [e] [] pos) (mM op f g) := by
  obtain ⟨ta, p1, d1⟩ := ho
  obtain ⟨tb, p2, d2⟩ := he
  refine ⟨_, pe_m1 slot ty rule p1 p2 hs hbase hline, fun {Hb L0 α ρ σ H} E hne Q hq => d1 E (bnd_ne hne) _ ⟨fun x v H1 e1 s1 i1 => ?_, fun n H1 e1 s1 => hq.2 n H1 (bnd_raise e1) s1⟩⟩
  have n1 := bnd_at hne e1
  have q1 : mM op f g ρ = _ := bnd_eq e1
  cases x with
  | str a =>
    cases i1
    refine ⟨⟨a, rfl⟩, d2 (E.mono s1) (bnd_ne n1) _ ⟨fun y w H2 e2 s2 i2 => ?_, fun n H2 e2 s2 => hq.2 n H2 (q1.trans (bnd_raise e2)) (s1.trans s2)⟩⟩
    have n2 := bnd_at n1 e2
    have q2 := q1.trans (bnd_eq e2)
    cases ez : op a y with
    | none => exact absurd ez n2
    | some z =>
      cases z with
      | er n => exact absurd ez (hn a y n)
      | ok z => exact hr _ H2 a w y z (E.mono (s1.trans s2)).dom i2 ez Q fun u H3 s3 i3 => hq.1 z u H3 (q2.trans ez) ((s1.trans s2).trans s3) i3
  | _ => exact absurd rfl n1
theorem ge_split (ho : GE X cl W o f) (he : GE X cl W e g)
    (hs : starEach [e] X.env = [(false, eval e X.env)] := by rfl) (hbase : attributeBase o "split" X.env (eval o X.env) = eval o X.env := by rfl) (hline : (apos.endLine == pos.line) = true := by rfl) :
    GE X cl W (.Call (.Attribute o "split" apos) [e] [] pos) (mM pySplit f g) := by
  refine ge_m1 F.slot_str_split F.type_str_split mt_split (fun L H a y d z hL i hz Q hq => ?_) (fun a d n => ?_) ho he hs hbase hline
  · unfold pySplit at hz
    split at hz
    · rename_i b
      obtain ⟨⟨c1, c2⟩, c3⟩ := if_inv' hz
      cases i
      refine ⟨a, b, rfl, rfl, c1, szl c2, fun p hp => ?_⟩
      have e := ret_ok c3
      subst e
      exact hq (.ref p) _ (Same.new hp) (.lst (fun z => hL p z hp) upd_same (isAll_strs _))
    · cases hz
  · unfold pySplit
    split
    · split
      · exact ret_er
      · exact none_er
    · exact none_er
theorem ge_join (ho : GE X cl W o f) (he : GE X cl W e g)
    (hs : starEach [e] X.env = [(false, eval e X.env)] := by rfl) (hbase : attributeBase o "join" X.env (eval o X.env) = eval o X.env := by rfl) (hline : (apos.endLine == pos.line) = true := by rfl) :
    GE X cl W (.Call (.Attribute o "join" apos) [e] [] pos) (mM pyJoin f g) := by
  refine ge_m1 F.slot_str_join F.type_str_join mt_join (fun L H a y d z hL i hz Q hq => ?_) (fun a d n => ?_) ho he hs hbase hline
  · unfold pyJoin at hz
    cases e1 : lstOf d with
    | none => rw [e1] at hz; cases hz
    | some ds =>
      rw [e1] at hz
      dsimp only at hz
      cases e2 : strsOf ds with
      | none => rw [e2] at hz; cases hz
      | some ys =>
        rw [e2] at hz
        dsimp only at hz
        obtain ⟨c1, c2⟩ := if_inv' hz
        obtain ⟨p, xs, rfl, h1, h2⟩ := i.lstK e1
        have e4 := strsOf_is e2 h1
        subst e4
        have e := ret_ok c2
        subst e
        exact ⟨a, p, ys, rfl, rfl, .inl (h2 L H (Kp.refl _ _)), c1, hq _ H (Same.refl H) (.str _)⟩
  · unfold pyJoin
    split
    · split
      · split
        · exact ret_er
        · exact none_er
      · exact none_er
    · exact none_er
theorem ge_startswith (ho : GE X cl W o f) (he : GE X cl W e g)
    (hs : starEach [e] X.env = [(false, eval e X.env)] := by rfl) (hbase : attributeBase o "startswith" X.env (eval o X.env) = eval o X.env := by rfl) (hline : (apos.endLine == pos.line) = true := by rfl) :
    GE X cl W (.Call (.Attribute o "startswith" apos) [e] [] pos) (mM pyStartswith f g) := by
  refine ge_m1 F.slot_str_startswith F.type_str_startswith mt_startswith (fun L H a y d z hL i hz Q hq => ?_) (fun a d n => ?_) ho he hs hbase hline
  · unfold pyStartswith at hz
    split at hz
    · rename_i b
      cases i
      have e := ret_ok hz
      subst e
      exact ⟨a, b, rfl, rfl, hq _ H (Same.refl H) (.bl _)⟩
    · cases hz
  · unfold pyStartswith
    split
    · exact ret_er
    · exact none_er
def pyStrI : List PyData → M PyData
  | [.int i] => if i.natAbs.log2 < 1920 then ret (.str (PySem.Str.ofString (toString i))) else none
  | _ => none
theorem ge_strI (hm : X.mg "str" = none) (ha : GA X cl W [e] fa) (hg : Gl X "str" := by rfl) (he : starEach [e] X.env = (false, eval e X.env) :: starEach [] X.env := by rfl) : GE X cl W (.Call (.Name "str" p) [e] [] pos) (mCall pyStrI fa) := by
  refine ge_callTy call_str_int (fun L H vs ds z hL i hz Q hq => ?_) (fun d n => ?_) hm (by decide +kernel) ha hg (by decide) (by decide) he rfl
  · unfold pyStrI at hz
    split at hz
    · obtain ⟨c1, c2⟩ := if_inv' hz
      have e3 := ret_ok c2
      subst e3
      obtain ⟨v, rfl, iv⟩ := i.one
      cases iv
      exact ⟨_, rfl, c1, hq _ H (Same.refl H) (.str _)⟩
    · cases hz
  · unfold pyStrI
    split
    · split
      · exact ret_er
      · exact none_er
    · exact none_er
def pyIntT : List PyData → M PyData
  | [.str a] => match PySem.intText? a with
    | some n => if a.length ≤ 640 then ret (.int n) else none
    | none => none
  | _ => none
theorem ge_intT (hm : X.mg "int" = none) (ha : GA X cl W [e] fa) (hg : Gl X "int" := by rfl) (he : starEach [e] X.env = (false, eval e X.env) :: starEach [] X.env := by rfl) : GE X cl W (.Call (.Name "int" p) [e] [] pos) (mCall pyIntT fa) := by
  refine ge_callTy call_int_str (fun L H vs ds z hL i hz Q hq => ?_) (fun d n => ?_) hm (by decide +kernel) ha hg (by decide) (by decide) he rfl
  · unfold pyIntT at hz
    split at hz
    · rename_i a
      cases e1 : PySem.intText? a with
      | none => rw [e1] at hz; cases hz
      | some n =>
        rw [e1] at hz
        dsimp only at hz
        obtain ⟨c1, c2⟩ := if_inv' hz
        have e3 := ret_ok c2
        subst e3
        obtain ⟨v, rfl, iv⟩ := i.one
        cases iv
        exact ⟨a, n, rfl, e1, c1, hq _ H (Same.refl H) (.int _)⟩
    · cases hz
  · unfold pyIntT
    split
    · split
      · split
        · exact ret_er
        · exact none_er
      · exact none_er
    · exact none_er
end
end VW
/-! Defs whose exceptions have no context; a suite that raises another. -/
namespace VW
open PySem PySem.Spec PyProof.Rows L2
structure FDN (P : Program) (w : World) (K : PySem.W.Frag) (mg : Str → Option Value) (base : Heap) (cl : Ex → Addr) (x : Str) (k n : Nat) (F : List PyData → M PyData) : Prop where
  ex : ∃ f fd ps, mg x = some (.ref f) ∧ PySem.W.keepIn K (.ref f) = true ∧ Binds K fd ps [] ∧ FnOk P w K mg base (L2N.CX P w) k f fd ps (spD K cl n F)
section
variable {P : Program} {w : World} {K : PySem.W.Frag} {mg : Str → Option Value} {base : Heap} {cl : Ex → Addr}
theorem Fun.okDN {x qual : Str} {st : Stmt} {f : Addr} {fd : FuncData} {N ps : List Str} {k : Nat} {b : Rho → M Out} (F : Fun K x qual st f fd) (S : FnScope N ps (defScope st))
    (hb : ∀ (cdv : Value) (A : Around) (outer : List PySem.Env) (s : Shared) (H : Hp) (E : XK), Room k (A.deeper (envOfC qual (defScope st) s.heap.objs.size f cdv)) → ∃ ts, GSs (cxOf (L2N.CX P w) P w K mg base N qual (defScope st) f cdv A outer s H E) cl (WF E) .pl false ts (defBody st) b) :
    FnOk P w K mg base (L2N.CX P w) (k + 1) f fd ps (spD K cl ps.length (fnD N.length b)) := by
  obtain ⟨oc, od, kV, doc, pm, an, cdv, ct, osl, rfl, lk, hcd⟩ := F.ex
  refine fn_of lk hcd S (fun vs H Q E h => h.1) fun A outer s H vs Q E hr h => ?_
  obtain ⟨ts, ⟨t, p, d⟩⟩ := hb cdv A outer s H E hr
  refine ⟨t, p, ?_⟩
  obtain ⟨hl, L, ds, hL, hv, hne, h1, h2⟩ := h
  have E0 := env_start (N := N) hL hv
  have lof : ∀ a, Lof L (fun _ => []) a → L a := fun a z => by
    rcases z with z | ⟨i, z⟩
    · exact z
    · cases z
  refine d E0 hL (bnd_ne hne) _ ⟨fun ρ' α' σ' H' e1 E1 k1 => h1 .none .non H' (bnd_eq e1) E1.same .non, fun ρ' α' σ' H' e1 E1 k1 => ?_, fun ρ' α' σ' H' e1 E1 k1 => ?_, fun d v H' e1 r => h1 d v H' (bnd_eq e1) r.1 r.2, fun n σ' H' e1 s1 _ => h2 n H' (bnd_raise e1) s1⟩
  · exact absurd (show fnD N.length b ds = none from bnd_eq e1) hne
  · exact absurd (show fnD N.length b ds = none from bnd_eq e1) hne
variable {X : Cx} {W : WX} {x : Str} {k n : Nat} {p pos : Pos} {e : Expr} {es : List Expr} {fa : Rho → M (List PyData)}
theorem ge_callN {F : List PyData → M PyData} (h : FDN X.prog X.w X.K X.mg X.base cl x k n F) (hr : Room k X.A) (tk : L2N.Takes X W) (ha : GA X cl W (e :: es) fa) (hn : ∀ ρ ds, fa ρ = some (.ok ds) → ds.length = n) (hg : Gl X x := by rfl) (hdb : (x == ("__debug__" : Str)) = false := by decide)
    (he : starEach (e :: es) X.env = (false, eval e X.env) :: starEach es X.env := by rfl) (hpl : (backTo pos (starEach es X.env)).any (·.1) = false := by rfl) : GE X cl W (.Call (.Name x p) (e :: es) [] pos) (mCall F fa) := by
  obtain ⟨f, fd, ps, h1, h2, h3, h4⟩ := h
  obtain ⟨ta, p1, d1⟩ := ha
  refine ⟨_, pe_callS h4 hr hg h1 h2 h3 (fun σ => L2N.passAt tk σ) p1 hdb he hpl, fun {Hb L0 α ρ σ H} E hne Q hq => d1 E (bnd_ne hne) _ ⟨fun ds vs H1 e1 s1 i1 => ?_, fun n H1 e1 s1 => hq.2 n H1 (bnd_raise e1) s1⟩⟩
  have n1 := bnd_at hne e1
  have q1 : mCall F fa ρ = F ds := bnd_eq e1
  exact ⟨by rw [i1.len]; exact hn ρ ds e1, _, ds, (E.mono s1).dom, i1, n1, fun d v H2 e2 s2 i2 => hq.1 d v H2 (q1.trans e2) (s1.trans s2) i2, fun n H2 e2 s2 => hq.2 n H2 (q1.trans e2) (s1.trans s2)⟩
theorem gs_raiseN {fr : Md} {pu : Bool} (n : Ex) {x m : Str} {j : Nat} {p p2 pos' : Pos} (hc : X.calm = true) (tk : L2N.Takes X W) (q : PySem.W.excIn X.K (cl n) [.type "ValueError", .type "Exception", .type "BaseException", .type "object"] "ValueError.__new__" = true) (gC : X.mg x = some (.ref (cl n))) (kC : PySem.W.keepIn X.K (.ref (cl n)) = true)
    (r : Raises X (.ref (cl n))) (hg : Gl X x := by rfl) (hdb : (x == ("__debug__" : Str)) = false := by decide) : GS X cl W fr pu [] (.Raise (some (.Call (.Name x p) [.Constant (.str m) j p2] [] pos')) none pos) (sRaise n) :=
  ⟨_, L2N.ps_raise hc tk (L2N.pmk_own PySem.F.excBase_ValueError q gC kC r hg hdb), fun E l0 hne D hq => hq.er n _ _ rfl E.same fun _ => erE E (Same.refl _)⟩
end
section
variable {P : Program} {w : World} {K : PySem.W.Frag} {mg : Str → Option Value} {base : Heap} {N : List Str} {qual : Str} {sc : Scope} {f : Addr} {cdv : Value} {A : Around} {outer : List PySem.Env} {s : Shared} {H : Hp} {E : XK}
theorem tk_defN : L2N.Takes (cxOf (L2N.CX P w) P w K mg base N qual sc f cdv A outer s H E) (WF E) := L2N.takes_of rfl rfl rfl rfl
theorem hp_defN : PassesOwn (model (cxOf (L2N.CX P w) P w K mg base N qual sc f cdv A outer s H E).prog (cxOf (L2N.CX P w) P w K mg base N qual sc f cdv A outer s H E).w) (cxOf (L2N.CX P w) P w K mg base N qual sc f cdv A outer s H E).A (cxOf (L2N.CX P w) P w K mg base N qual sc f cdv A outer s H E).env (cxOf (L2N.CX P w) P w K mg base N qual sc f cdv A outer s H E).xe := passes_of rfl
theorem hpa_def : ∀ hd : Option Value, PassesOwnAt (model (cxOf (L2.CX P w) P w K mg base N qual sc f cdv A outer s H E).prog (cxOf (L2.CX P w) P w K mg base N qual sc f cdv A outer s H E).w) ((cxOf (L2.CX P w) P w K mg base N qual sc f cdv A outer s H E).A.mark hd) (cxOf (L2.CX P w) P w K mg base N qual sc f cdv A outer s H E).A (cxOf (L2.CX P w) P w K mg base N qual sc f cdv A outer s H E).env (cxOf (L2.CX P w) P w K mg base N qual sc f cdv A outer s H E).xe := fun hd => L2H.passesAt_of rfl hd
end
/-- try: s, except those of g: raise n -/
def sTryR (n : Ex) (g : Ex → Bool) (s : Rho → M Out) : Rho → M Out := fun ρ => match s ρ with
  | some (.ok o) => ret o
  | some (.er x) => if g x = true then some (.er n) else none
  | none => none
theorem gs_tryR {X : Cx} {cl : Ex → Addr} {W : WX} {fr : Md} {pu : Bool} {ts : List Nat} {body : List Stmt} {s : Rho → M Out} {x y m : Str} {c : Value} {j : Nat} {np pos pos' rpos p p2 cpos : Pos} (n : Ex) (g : Ex → Bool)
    (tk : Takes X W) (hpa : ∀ hd : Option Value, PassesOwnAt (model X.prog X.w) (X.A.mark hd) X.A X.env X.xe) (hc : Names X x c) (hx : ∀ n, g n = true → PySem.W.exmOne X.K (.ref (cl n)) c = some true)
    (hb : ∀ (W' : WX) (pn : List (Addr × Obj)) (xe : Value → Shared → Prop), L2N.Takes (X.tr pn xe) W' → PassesOwn (model X.prog X.w) X.A X.env xe → GSs (X.tr pn xe) cl W' fr true ts body s)
    (q : PySem.W.excIn X.K (cl n) [.type "ValueError", .type "Exception", .type "BaseException", .type "object"] "ValueError.__new__" = true) (gC : X.mg y = some (.ref (cl n))) (kC : PySem.W.keepIn X.K (.ref (cl n)) = true)
    (r : Raises X (.ref (cl n))) (hs : X.stack = X.env :: X.outer := by rfl) (hf : X.env.frame = some X.env.locals := by rfl) (hg : Gl X y := by rfl) (hdb : (y == ("__debug__" : Str)) = false := by decide) :
    GS X cl W fr pu ts (.Try body [.ExceptHandler (some (.Name x np)) none [.Raise (some (.Call (.Name y p) [.Constant (.str m) j p2] [] cpos)) none rpos] pos'] [] [] pos) (sTryR n g s) := by
  refine ⟨_, L2H.ps_try_onlyX (tb := fun W' => tcS fr X.K cl W' ts s) (ts := fun _ _ _ => fun _ σ H => W (.ref (cl n)) none σ H) hs hf hc hpa tk (fun W' pn xe tk' _ hp => (hb W' pn xe tk' hp).can) (fun a oe cls d pn hz hfl tk' hot => pss_one (L2H.ps_raiseH hot tk' (L2N.pmk_own PySem.F.excBase_ValueError q gC kC r hg hdb))), fun {Hb L0 α ρ σ H} E l0 hne D hq => ?_⟩
  have sne : s ρ ≠ none := fun z => hne (by unfold sTryR; rw [z])
  have ok : ∀ o, s ρ = some (.ok o) → sTryR n g s ρ = some (.ok o) := fun o e => by unfold sTryR; rw [e]; rfl
  refine ⟨Hb, L0, α, ρ, E, l0, sne, ⟨fun ρ' α' σ' H' e1 E1 k1 => hq.nx ρ' α' σ' H' (ok _ e1) E1 k1, fun ρ' α' σ' H' e1 E1 k1 => hq.bk ρ' α' σ' H' (ok _ e1) E1 k1, fun ρ' α' σ' H' e1 E1 k1 => hq.ct ρ' α' σ' H' (ok _ e1) E1 k1, fun d v H' e1 r1 => hq.rt d v H' (ok _ e1) r1, fun z σ' H' e1 s1 pe => ?_⟩⟩
  have em : sTryR n g s ρ = if g z = true then some (.er n) else none := by unfold sTryR; rw [e1]
  rw [em] at hne
  obtain ⟨c1, c2⟩ := if_inv hne
  rw [c2] at em
  exact ⟨true, hx z c1, fun _ a ha => hq.er n σ' H' em s1 fun _ => pe rfl, fun z => nomatch z⟩
end VW
/-! Working out mirrors. -/
namespace VW
open PySem PySem.Spec PyProof.Rows L2
def absI (i : Int) : Int := if i < 0 then -i else i
section
variable {f g h : Rho → M PyData} {t u : Rho → M Bool} {fa : Rho → M (List PyData)} {ρ ρ' : Rho} {d e : PyData} {i j n : Nat} {s v : Rho → M Out} {ds es : List PyData}
@[simp] theorem w_mC : mC d ρ = ret d := rfl
@[simp] theorem w_mV0 : mV 0 (some (.imm d) :: ρ) = ret d := rfl
@[simp] theorem w_mVs {x : Option Sl} : mV (i + 1) (x :: ρ) = mV i ρ := rfl
theorem mV_of (h : ρ[i]? = some (some (.imm d))) : mV i ρ = ret d := by unfold mV; rw [h]
@[simp] theorem w_m1 {op : PyData → M PyData} : m1 op f ρ = bnd (f ρ) op := rfl
@[simp] theorem w_m2 {op : PyData → PyData → M PyData} : m2 op f g ρ = bnd (f ρ) fun x => bnd (g ρ) fun y => op x y := rfl
@[simp] theorem w_m2B {op : PyData → PyData → M Bool} : m2B op f g ρ = bnd (f ρ) fun x => bnd (g ρ) fun y => op x y := rfl
@[simp] theorem w_mB : mB t ρ = bnd (t ρ) fun b => ret (.bool b) := rfl
@[simp] theorem w_asB {b : Bool} : asB (.bool b) = ret b := rfl
@[simp] theorem w_mIsB : mIsB f ρ = bnd (f ρ) asB := rfl
@[simp] theorem w_mAnd : mAnd t u ρ = bnd (t ρ) fun b => if b = true then u ρ else ret false := by
  unfold mAnd
  congr 1
  funext b
  cases b <;> rfl
@[simp] theorem w_mOr : mOr t u ρ = bnd (t ρ) fun b => if b = true then ret true else u ρ := by
  unfold mOr
  congr 1
  funext b
  cases b <;> rfl
@[simp] theorem w_mNot : mNot t ρ = bnd (t ρ) fun b => ret (!b) := rfl
@[simp] theorem w_mChain {o p : PyData → PyData → M Bool} : mChain o p f g h ρ = bnd (f ρ) fun x => bnd (g ρ) fun y => bnd (o x y) fun b => if b = true then bnd (h ρ) fun z => p y z else ret false := by
  unfold mChain
  congr 1
  funext x
  congr 1
  funext y
  congr 1
  funext b
  cases b <;> rfl
@[simp] theorem w_mL : mL fa ρ = bnd (fa ρ) fun ds => ret (.list ds) := rfl
@[simp] theorem w_mTup : mTup fa ρ = bnd (fa ρ) fun ds => if ds.length ≤ 16777216 then ret (.tuple ds) else none := rfl
@[simp] theorem w_mLst : mLst fa ρ = bnd (fa ρ) fun ds => if ds.length ≤ 16777216 then ret ds else none := rfl
@[simp] theorem w_mNil : mNil ρ = ret [] := rfl
@[simp] theorem w_mCons : mCons f fa ρ = bnd (f ρ) fun d => bnd (fa ρ) fun ds => ret (d :: ds) := rfl
@[simp] theorem w_mCall {F : List PyData → M PyData} : mCall F fa ρ = bnd (fa ρ) F := rfl
@[simp] theorem w_mCallF {F : List PyData → M (List PyData)} : mCallF F fa ρ = bnd (fa ρ) F := rfl
@[simp] theorem w_mIf : mIf t f g ρ = bnd (t ρ) fun b => if b = true then f ρ else g ρ := by
  unfold mIf
  congr 1
  funext b
  cases b <;> rfl
@[simp] theorem w_addi {i j : Int} : pyAdd (.int i) (.int j) = ret (.int (i + j)) := rfl
@[simp] theorem w_subi {i j : Int} : pySub (.int i) (.int j) = ret (.int (i - j)) := rfl
@[simp] theorem w_negi {i : Int} : pyNeg (.int i) = ret (.int (-i)) := rfl
theorem w_muli {i j : Int} (h : (-(2 ^ 64) < i ∧ i < 2 ^ 64) ∨ (-(2 ^ 64) < j ∧ j < 2 ^ 64)) : pyMul (.int i) (.int j) = ret (.int (i * j)) := if_pos h
theorem w_divi {i j : Int} (h : 0 < j ∧ j < 1073741824) : pyDiv (.int i) (.int j) = ret (.int (i / j)) := if_pos h
theorem w_modi {i j : Int} (h : 0 < j) : pyMod (.int i) (.int j) = ret (.int (i % j)) := if_pos h
@[simp] theorem w_addl : pyAdd (.list ds) (.list es) = if ds.length + es.length ≤ 16777216 then ret (.list (ds ++ es)) else none := rfl
@[simp] theorem w_icmp {p : Int → Int → Bool} {i j : Int} : iCmp p (.int i) (.int j) = ret (p i j) := rfl
theorem w_ixl {i : Nat} (h : ds[i]? = some d) : pyIx (.list ds) (.int i) = ret d := by
  show ofO (atI ds (i : Int)) _ = _
  rw [atI_nat h]
  rfl
@[simp] theorem w_ix0 {a b c : PyData} : pyIx (.tuple [a, b, c]) (.int 0) = ret a := rfl
@[simp] theorem w_ix1 {a b c : PyData} : pyIx (.tuple [a, b, c]) (.int 1) = ret b := rfl
@[simp] theorem w_ix2 {a b c : PyData} : pyIx (.tuple [a, b, c]) (.int 2) = ret c := rfl
@[simp] theorem w_iy0 {a b : PyData} : pyIx (.tuple [a, b]) (.int 0) = ret a := rfl
@[simp] theorem w_iy1 {a b : PyData} : pyIx (.tuple [a, b]) (.int 1) = ret b := rfl
@[simp] theorem w_iz0 {a b c x y : PyData} : pyIx (.tuple [a, b, c, x, y]) (.int 0) = ret a := rfl
@[simp] theorem w_iz1 {a b c x y : PyData} : pyIx (.tuple [a, b, c, x, y]) (.int 1) = ret b := rfl
@[simp] theorem w_iz2 {a b c x y : PyData} : pyIx (.tuple [a, b, c, x, y]) (.int 2) = ret c := rfl
@[simp] theorem w_iz3 {a b c x y : PyData} : pyIx (.tuple [a, b, c, x, y]) (.int 3) = ret x := rfl
@[simp] theorem w_iz4 {a b c x y : PyData} : pyIx (.tuple [a, b, c, x, y]) (.int 4) = ret y := rfl
@[simp] theorem w_lenl : pyLen [.list ds] = ret (.int ds.length) := rfl
@[simp] theorem w_lent : pyLen [.tuple ds] = ret (.int ds.length) := rfl
@[simp] theorem w_lens : pyLen [.dict [(.none, .list ds)]] = ret (.int ds.length) := rfl
@[simp] theorem w_listl : pyListOf [.list ds] = ret ds := rfl
@[simp] theorem w_abs {i : Int} : pyAbs [.int i] = ret (.int (absI i)) := rfl
@[simp] theorem w_max2 {i j : Int} : pyMax2 [.int i, .int j] = ret (.int (if j > i then j else i)) := rfl
@[simp] theorem w_min2 {i j : Int} : pyMin2 [.int i, .int j] = ret (.int (if j < i then j else i)) := rfl
@[simp] theorem w_sNx : sNx ρ = ret (.nx ρ) := rfl
@[simp] theorem w_sBk : sBk ρ = ret (.bk ρ) := rfl
@[simp] theorem w_sCt : sCt ρ = ret (.ct ρ) := rfl
@[simp] theorem w_thn : thenO (.nx ρ) s = s ρ := rfl
@[simp] theorem w_thb : thenO (.bk ρ) s = ret (.bk ρ) := rfl
@[simp] theorem w_thc : thenO (.ct ρ) s = ret (.ct ρ) := rfl
@[simp] theorem w_thr : thenO (.rt d) s = ret (.rt d) := rfl
@[simp] theorem w_sSeq : sSeq s v ρ = bnd (s ρ) fun o => thenO o v := rfl
@[simp] theorem w_sIf : sIf t s v ρ = bnd (t ρ) fun b => if b = true then s ρ else v ρ := by
  unfold sIf
  congr 1
  funext b
  cases b <;> rfl
@[simp] theorem w_sSet : sSet i f ρ = bnd (f ρ) fun d => ret (.nx (ρ.set i (some (.imm d)))) := rfl
@[simp] theorem w_sOwn : sOwn i fa ρ = bnd (fa ρ) fun ds => ret (.nx (ρ.set i (some (.own ds)))) := rfl
@[simp] theorem w_sRet : sRet f ρ = bnd (f ρ) fun d => ret (.rt d) := rfl
@[simp] theorem w_sRetF : sRetF fa ρ = bnd (fa ρ) fun ds => ret (.rt (.list ds)) := rfl
@[simp] theorem w_sDrop : sDrop f ρ = bnd (f ρ) fun _ => ret (.nx ρ) := rfl
@[simp] theorem w_sFrz : sFrz i s ρ = s (frz i ρ) := rfl
@[simp] theorem w_mFrzT : mFrzT i t ρ = t (frz i ρ) := rfl
@[simp] theorem w_frz0o : frz 0 (some (.own ds) :: ρ) = some (.imm (.list ds)) :: ρ := rfl
@[simp] theorem w_frz0i : frz 0 (some (.imm d) :: ρ) = some (.imm d) :: ρ := rfl
@[simp] theorem w_frzs {x : Option Sl} : frz (i + 1) (x :: ρ) = x :: frz i ρ := by
  unfold frz
  rw [List.getElem?_cons_succ]
  cases ρ[i]? with
  | none => rfl
  | some t =>
    cases t with
    | none => rfl
    | some s => cases s <;> rfl
theorem app_of (h : ρ[i]? = some (some (.own ds))) : sApp i f ρ = bnd (f ρ) fun d => if ds.length < 16777216 then ret (.nx (ρ.set i (some (.own (ds ++ [d]))))) else none := by
  unfold sApp
  rw [h]
@[simp] theorem w_app0 : sApp 0 f (some (.own ds) :: ρ) = bnd (f (some (.own ds) :: ρ)) fun d => if ds.length < 16777216 then ret (.nx (some (.own (ds ++ [d])) :: ρ)) else none := rfl
@[simp] theorem w_catO0 : mCatO 0 f (some (.own ds) :: ρ) = bnd (f (some (.own ds) :: ρ)) fun d => match d with
  | .list es => if ds.length + es.length ≤ 16777216 then ret (ds ++ es) else none
  | _ => none := rfl
@[simp] theorem w_retO0 : sRetO 0 (some (.own ds) :: ρ) = ret (.rt (.list ds)) := rfl
@[simp] theorem w_app1 {x0 : Option Sl} : sApp 1 f (x0 :: some (.own ds) :: ρ) = bnd (f (x0 :: some (.own ds) :: ρ)) fun d => if ds.length < 16777216 then ret (.nx (x0 :: some (.own (ds ++ [d])) :: ρ)) else none := rfl
@[simp] theorem w_catO1 {x0 : Option Sl} : mCatO 1 f (x0 :: some (.own ds) :: ρ) = bnd (f (x0 :: some (.own ds) :: ρ)) fun d => match d with
  | .list es => if ds.length + es.length ≤ 16777216 then ret (ds ++ es) else none
  | _ => none := rfl
@[simp] theorem w_retO1 {x0 : Option Sl} : sRetO 1 (x0 :: some (.own ds) :: ρ) = ret (.rt (.list ds)) := rfl
@[simp] theorem w_app2 {x0 x1 : Option Sl} : sApp 2 f (x0 :: x1 :: some (.own ds) :: ρ) = bnd (f (x0 :: x1 :: some (.own ds) :: ρ)) fun d => if ds.length < 16777216 then ret (.nx (x0 :: x1 :: some (.own (ds ++ [d])) :: ρ)) else none := rfl
@[simp] theorem w_catO2 {x0 x1 : Option Sl} : mCatO 2 f (x0 :: x1 :: some (.own ds) :: ρ) = bnd (f (x0 :: x1 :: some (.own ds) :: ρ)) fun d => match d with
  | .list es => if ds.length + es.length ≤ 16777216 then ret (ds ++ es) else none
  | _ => none := rfl
@[simp] theorem w_retO2 {x0 x1 : Option Sl} : sRetO 2 (x0 :: x1 :: some (.own ds) :: ρ) = ret (.rt (.list ds)) := rfl
@[simp] theorem w_app3 {x0 x1 x2 : Option Sl} : sApp 3 f (x0 :: x1 :: x2 :: some (.own ds) :: ρ) = bnd (f (x0 :: x1 :: x2 :: some (.own ds) :: ρ)) fun d => if ds.length < 16777216 then ret (.nx (x0 :: x1 :: x2 :: some (.own (ds ++ [d])) :: ρ)) else none := rfl
@[simp] theorem w_catO3 {x0 x1 x2 : Option Sl} : mCatO 3 f (x0 :: x1 :: x2 :: some (.own ds) :: ρ) = bnd (f (x0 :: x1 :: x2 :: some (.own ds) :: ρ)) fun d => match d with
  | .list es => if ds.length + es.length ≤ 16777216 then ret (ds ++ es) else none
  | _ => none := rfl
@[simp] theorem w_retO3 {x0 x1 x2 : Option Sl} : sRetO 3 (x0 :: x1 :: x2 :: some (.own ds) :: ρ) = ret (.rt (.list ds)) := rfl
@[simp] theorem w_app4 {x0 x1 x2 x3 : Option Sl} : sApp 4 f (x0 :: x1 :: x2 :: x3 :: some (.own ds) :: ρ) = bnd (f (x0 :: x1 :: x2 :: x3 :: some (.own ds) :: ρ)) fun d => if ds.length < 16777216 then ret (.nx (x0 :: x1 :: x2 :: x3 :: some (.own (ds ++ [d])) :: ρ)) else none := rfl
@[simp] theorem w_catO4 {x0 x1 x2 x3 : Option Sl} : mCatO 4 f (x0 :: x1 :: x2 :: x3 :: some (.own ds) :: ρ) = bnd (f (x0 :: x1 :: x2 :: x3 :: some (.own ds) :: ρ)) fun d => match d with
  | .list es => if ds.length + es.length ≤ 16777216 then ret (ds ++ es) else none
  | _ => none := rfl
@[simp] theorem w_retO4 {x0 x1 x2 x3 : Option Sl} : sRetO 4 (x0 :: x1 :: x2 :: x3 :: some (.own ds) :: ρ) = ret (.rt (.list ds)) := rfl
@[simp] theorem w_app5 {x0 x1 x2 x3 x4 : Option Sl} : sApp 5 f (x0 :: x1 :: x2 :: x3 :: x4 :: some (.own ds) :: ρ) = bnd (f (x0 :: x1 :: x2 :: x3 :: x4 :: some (.own ds) :: ρ)) fun d => if ds.length < 16777216 then ret (.nx (x0 :: x1 :: x2 :: x3 :: x4 :: some (.own (ds ++ [d])) :: ρ)) else none := rfl
@[simp] theorem w_catO5 {x0 x1 x2 x3 x4 : Option Sl} : mCatO 5 f (x0 :: x1 :: x2 :: x3 :: x4 :: some (.own ds) :: ρ) = bnd (f (x0 :: x1 :: x2 :: x3 :: x4 :: some (.own ds) :: ρ)) fun d => match d with
  | .list es => if ds.length + es.length ≤ 16777216 then ret (ds ++ es) else none
  | _ => none := rfl
@[simp] theorem w_retO5 {x0 x1 x2 x3 x4 : Option Sl} : sRetO 5 (x0 :: x1 :: x2 :: x3 :: x4 :: some (.own ds) :: ρ) = ret (.rt (.list ds)) := rfl
@[simp] theorem w_app6 {x0 x1 x2 x3 x4 x5 : Option Sl} : sApp 6 f (x0 :: x1 :: x2 :: x3 :: x4 :: x5 :: some (.own ds) :: ρ) = bnd (f (x0 :: x1 :: x2 :: x3 :: x4 :: x5 :: some (.own ds) :: ρ)) fun d => if ds.length < 16777216 then ret (.nx (x0 :: x1 :: x2 :: x3 :: x4 :: x5 :: some (.own (ds ++ [d])) :: ρ)) else none := rfl
@[simp] theorem w_catO6 {x0 x1 x2 x3 x4 x5 : Option Sl} : mCatO 6 f (x0 :: x1 :: x2 :: x3 :: x4 :: x5 :: some (.own ds) :: ρ) = bnd (f (x0 :: x1 :: x2 :: x3 :: x4 :: x5 :: some (.own ds) :: ρ)) fun d => match d with
  | .list es => if ds.length + es.length ≤ 16777216 then ret (ds ++ es) else none
  | _ => none := rfl
@[simp] theorem w_retO6 {x0 x1 x2 x3 x4 x5 : Option Sl} : sRetO 6 (x0 :: x1 :: x2 :: x3 :: x4 :: x5 :: some (.own ds) :: ρ) = ret (.rt (.list ds)) := rfl
@[simp] theorem w_app7 {x0 x1 x2 x3 x4 x5 x6 : Option Sl} : sApp 7 f (x0 :: x1 :: x2 :: x3 :: x4 :: x5 :: x6 :: some (.own ds) :: ρ) = bnd (f (x0 :: x1 :: x2 :: x3 :: x4 :: x5 :: x6 :: some (.own ds) :: ρ)) fun d => if ds.length < 16777216 then ret (.nx (x0 :: x1 :: x2 :: x3 :: x4 :: x5 :: x6 :: some (.own (ds ++ [d])) :: ρ)) else none := rfl
@[simp] theorem w_catO7 {x0 x1 x2 x3 x4 x5 x6 : Option Sl} : mCatO 7 f (x0 :: x1 :: x2 :: x3 :: x4 :: x5 :: x6 :: some (.own ds) :: ρ) = bnd (f (x0 :: x1 :: x2 :: x3 :: x4 :: x5 :: x6 :: some (.own ds) :: ρ)) fun d => match d with
  | .list es => if ds.length + es.length ≤ 16777216 then ret (ds ++ es) else none
  | _ => none := rfl
@[simp] theorem w_retO7 {x0 x1 x2 x3 x4 x5 x6 : Option Sl} : sRetO 7 (x0 :: x1 :: x2 :: x3 :: x4 :: x5 :: x6 :: some (.own ds) :: ρ) = ret (.rt (.list ds)) := rfl
@[simp] theorem w_app8 {x0 x1 x2 x3 x4 x5 x6 x7 : Option Sl} : sApp 8 f (x0 :: x1 :: x2 :: x3 :: x4 :: x5 :: x6 :: x7 :: some (.own ds) :: ρ) = bnd (f (x0 :: x1 :: x2 :: x3 :: x4 :: x5 :: x6 :: x7 :: some (.own ds) :: ρ)) fun d => if ds.length < 16777216 then ret (.nx (x0 :: x1 :: x2 :: x3 :: x4 :: x5 :: x6 :: x7 :: some (.own (ds ++ [d])) :: ρ)) else none := rfl
@[simp] theorem w_catO8 {x0 x1 x2 x3 x4 x5 x6 x7 : Option Sl} : mCatO 8 f (x0 :: x1 :: x2 :: x3 :: x4 :: x5 :: x6 :: x7 :: some (.own ds) :: ρ) = bnd (f (x0 :: x1 :: x2 :: x3 :: x4 :: x5 :: x6 :: x7 :: some (.own ds) :: ρ)) fun d => match d with
  | .list es => if ds.length + es.length ≤ 16777216 then ret (ds ++ es) else none
  | _ => none := rfl
@[simp] theorem w_retO8 {x0 x1 x2 x3 x4 x5 x6 x7 : Option Sl} : sRetO 8 (x0 :: x1 :: x2 :: x3 :: x4 :: x5 :: x6 :: x7 :: some (.own ds) :: ρ) = ret (.rt (.list ds)) := rfl
@[simp] theorem w_app9 {x0 x1 x2 x3 x4 x5 x6 x7 x8 : Option Sl} : sApp 9 f (x0 :: x1 :: x2 :: x3 :: x4 :: x5 :: x6 :: x7 :: x8 :: some (.own ds) :: ρ) = bnd (f (x0 :: x1 :: x2 :: x3 :: x4 :: x5 :: x6 :: x7 :: x8 :: some (.own ds) :: ρ)) fun d => if ds.length < 16777216 then ret (.nx (x0 :: x1 :: x2 :: x3 :: x4 :: x5 :: x6 :: x7 :: x8 :: some (.own (ds ++ [d])) :: ρ)) else none := rfl
@[simp] theorem w_catO9 {x0 x1 x2 x3 x4 x5 x6 x7 x8 : Option Sl} : mCatO 9 f (x0 :: x1 :: x2 :: x3 :: x4 :: x5 :: x6 :: x7 :: x8 :: some (.own ds) :: ρ) = bnd (f (x0 :: x1 :: x2 :: x3 :: x4 :: x5 :: x6 :: x7 :: x8 :: some (.own ds) :: ρ)) fun d => match d with
  | .list es => if ds.length + es.length ≤ 16777216 then ret (ds ++ es) else none
  | _ => none := rfl
@[simp] theorem w_retO9 {x0 x1 x2 x3 x4 x5 x6 x7 x8 : Option Sl} : sRetO 9 (x0 :: x1 :: x2 :: x3 :: x4 :: x5 :: x6 :: x7 :: x8 :: some (.own ds) :: ρ) = ret (.rt (.list ds)) := rfl
@[simp] theorem w_app10 {x0 x1 x2 x3 x4 x5 x6 x7 x8 x9 : Option Sl} : sApp 10 f (x0 :: x1 :: x2 :: x3 :: x4 :: x5 :: x6 :: x7 :: x8 :: x9 :: some (.own ds) :: ρ) = bnd (f (x0 :: x1 :: x2 :: x3 :: x4 :: x5 :: x6 :: x7 :: x8 :: x9 :: some (.own ds) :: ρ)) fun d => if ds.length < 16777216 then ret (.nx (x0 :: x1 :: x2 :: x3 :: x4 :: x5 :: x6 :: x7 :: x8 :: x9 :: some (.own (ds ++ [d])) :: ρ)) else none := rfl
@[simp] theorem w_catO10 {x0 x1 x2 x3 x4 x5 x6 x7 x8 x9 : Option Sl} : mCatO 10 f (x0 :: x1 :: x2 :: x3 :: x4 :: x5 :: x6 :: x7 :: x8 :: x9 :: some (.own ds) :: ρ) = bnd (f (x0 :: x1 :: x2 :: x3 :: x4 :: x5 :: x6 :: x7 :: x8 :: x9 :: some (.own ds) :: ρ)) fun d => match d with
  | .list es => if ds.length + es.length ≤ 16777216 then ret (ds ++ es) else none
  | _ => none := rfl
@[simp] theorem w_retO10 {x0 x1 x2 x3 x4 x5 x6 x7 x8 x9 : Option Sl} : sRetO 10 (x0 :: x1 :: x2 :: x3 :: x4 :: x5 :: x6 :: x7 :: x8 :: x9 :: some (.own ds) :: ρ) = ret (.rt (.list ds)) := rfl
@[simp] theorem w_app11 {x0 x1 x2 x3 x4 x5 x6 x7 x8 x9 x10 : Option Sl} : sApp 11 f (x0 :: x1 :: x2 :: x3 :: x4 :: x5 :: x6 :: x7 :: x8 :: x9 :: x10 :: some (.own ds) :: ρ) = bnd (f (x0 :: x1 :: x2 :: x3 :: x4 :: x5 :: x6 :: x7 :: x8 :: x9 :: x10 :: some (.own ds) :: ρ)) fun d => if ds.length < 16777216 then ret (.nx (x0 :: x1 :: x2 :: x3 :: x4 :: x5 :: x6 :: x7 :: x8 :: x9 :: x10 :: some (.own (ds ++ [d])) :: ρ)) else none := rfl
@[simp] theorem w_catO11 {x0 x1 x2 x3 x4 x5 x6 x7 x8 x9 x10 : Option Sl} : mCatO 11 f (x0 :: x1 :: x2 :: x3 :: x4 :: x5 :: x6 :: x7 :: x8 :: x9 :: x10 :: some (.own ds) :: ρ) = bnd (f (x0 :: x1 :: x2 :: x3 :: x4 :: x5 :: x6 :: x7 :: x8 :: x9 :: x10 :: some (.own ds) :: ρ)) fun d => match d with
  | .list es => if ds.length + es.length ≤ 16777216 then ret (ds ++ es) else none
  | _ => none := rfl
@[simp] theorem w_retO11 {x0 x1 x2 x3 x4 x5 x6 x7 x8 x9 x10 : Option Sl} : sRetO 11 (x0 :: x1 :: x2 :: x3 :: x4 :: x5 :: x6 :: x7 :: x8 :: x9 :: x10 :: some (.own ds) :: ρ) = ret (.rt (.list ds)) := rfl
@[simp] theorem w_app12 {x0 x1 x2 x3 x4 x5 x6 x7 x8 x9 x10 x11 : Option Sl} : sApp 12 f (x0 :: x1 :: x2 :: x3 :: x4 :: x5 :: x6 :: x7 :: x8 :: x9 :: x10 :: x11 :: some (.own ds) :: ρ) = bnd (f (x0 :: x1 :: x2 :: x3 :: x4 :: x5 :: x6 :: x7 :: x8 :: x9 :: x10 :: x11 :: some (.own ds) :: ρ)) fun d => if ds.length < 16777216 then ret (.nx (x0 :: x1 :: x2 :: x3 :: x4 :: x5 :: x6 :: x7 :: x8 :: x9 :: x10 :: x11 :: some (.own (ds ++ [d])) :: ρ)) else none := rfl
@[simp] theorem w_catO12 {x0 x1 x2 x3 x4 x5 x6 x7 x8 x9 x10 x11 : Option Sl} : mCatO 12 f (x0 :: x1 :: x2 :: x3 :: x4 :: x5 :: x6 :: x7 :: x8 :: x9 :: x10 :: x11 :: some (.own ds) :: ρ) = bnd (f (x0 :: x1 :: x2 :: x3 :: x4 :: x5 :: x6 :: x7 :: x8 :: x9 :: x10 :: x11 :: some (.own ds) :: ρ)) fun d => match d with
  | .list es => if ds.length + es.length ≤ 16777216 then ret (ds ++ es) else none
  | _ => none := rfl
@[simp] theorem w_retO12 {x0 x1 x2 x3 x4 x5 x6 x7 x8 x9 x10 x11 : Option Sl} : sRetO 12 (x0 :: x1 :: x2 :: x3 :: x4 :: x5 :: x6 :: x7 :: x8 :: x9 :: x10 :: x11 :: some (.own ds) :: ρ) = ret (.rt (.list ds)) := rfl
@[simp] theorem w_app13 {x0 x1 x2 x3 x4 x5 x6 x7 x8 x9 x10 x11 x12 : Option Sl} : sApp 13 f (x0 :: x1 :: x2 :: x3 :: x4 :: x5 :: x6 :: x7 :: x8 :: x9 :: x10 :: x11 :: x12 :: some (.own ds) :: ρ) = bnd (f (x0 :: x1 :: x2 :: x3 :: x4 :: x5 :: x6 :: x7 :: x8 :: x9 :: x10 :: x11 :: x12 :: some (.own ds) :: ρ)) fun d => if ds.length < 16777216 then ret (.nx (x0 :: x1 :: x2 :: x3 :: x4 :: x5 :: x6 :: x7 :: x8 :: x9 :: x10 :: x11 :: x12 :: some (.own (ds ++ [d])) :: ρ)) else none := rfl
@[simp] theorem w_catO13 {x0 x1 x2 x3 x4 x5 x6 x7 x8 x9 x10 x11 x12 : Option Sl} : mCatO 13 f (x0 :: x1 :: x2 :: x3 :: x4 :: x5 :: x6 :: x7 :: x8 :: x9 :: x10 :: x11 :: x12 :: some (.own ds) :: ρ) = bnd (f (x0 :: x1 :: x2 :: x3 :: x4 :: x5 :: x6 :: x7 :: x8 :: x9 :: x10 :: x11 :: x12 :: some (.own ds) :: ρ)) fun d => match d with
  | .list es => if ds.length + es.length ≤ 16777216 then ret (ds ++ es) else none
  | _ => none := rfl
@[simp] theorem w_retO13 {x0 x1 x2 x3 x4 x5 x6 x7 x8 x9 x10 x11 x12 : Option Sl} : sRetO 13 (x0 :: x1 :: x2 :: x3 :: x4 :: x5 :: x6 :: x7 :: x8 :: x9 :: x10 :: x11 :: x12 :: some (.own ds) :: ρ) = ret (.rt (.list ds)) := rfl
@[simp] theorem w_app14 {x0 x1 x2 x3 x4 x5 x6 x7 x8 x9 x10 x11 x12 x13 : Option Sl} : sApp 14 f (x0 :: x1 :: x2 :: x3 :: x4 :: x5 :: x6 :: x7 :: x8 :: x9 :: x10 :: x11 :: x12 :: x13 :: some (.own ds) :: ρ) = bnd (f (x0 :: x1 :: x2 :: x3 :: x4 :: x5 :: x6 :: x7 :: x8 :: x9 :: x10 :: x11 :: x12 :: x13 :: some (.own ds) :: ρ)) fun d => if ds.length < 16777216 then ret (.nx (x0 :: x1 :: x2 :: x3 :: x4 :: x5 :: x6 :: x7 :: x8 :: x9 :: x10 :: x11 :: x12 :: x13 :: some (.own (ds ++ [d])) :: ρ)) else none := rfl
@[simp] theorem w_catO14 {x0 x1 x2 x3 x4 x5 x6 x7 x8 x9 x10 x11 x12 x13 : Option Sl} : mCatO 14 f (x0 :: x1 :: x2 :: x3 :: x4 :: x5 :: x6 :: x7 :: x8 :: x9 :: x10 :: x11 :: x12 :: x13 :: some (.own ds) :: ρ) = bnd (f (x0 :: x1 :: x2 :: x3 :: x4 :: x5 :: x6 :: x7 :: x8 :: x9 :: x10 :: x11 :: x12 :: x13 :: some (.own ds) :: ρ)) fun d => match d with
  | .list es => if ds.length + es.length ≤ 16777216 then ret (ds ++ es) else none
  | _ => none := rfl
@[simp] theorem w_retO14 {x0 x1 x2 x3 x4 x5 x6 x7 x8 x9 x10 x11 x12 x13 : Option Sl} : sRetO 14 (x0 :: x1 :: x2 :: x3 :: x4 :: x5 :: x6 :: x7 :: x8 :: x9 :: x10 :: x11 :: x12 :: x13 :: some (.own ds) :: ρ) = ret (.rt (.list ds)) := rfl
@[simp] theorem w_app15 {x0 x1 x2 x3 x4 x5 x6 x7 x8 x9 x10 x11 x12 x13 x14 : Option Sl} : sApp 15 f (x0 :: x1 :: x2 :: x3 :: x4 :: x5 :: x6 :: x7 :: x8 :: x9 :: x10 :: x11 :: x12 :: x13 :: x14 :: some (.own ds) :: ρ) = bnd (f (x0 :: x1 :: x2 :: x3 :: x4 :: x5 :: x6 :: x7 :: x8 :: x9 :: x10 :: x11 :: x12 :: x13 :: x14 :: some (.own ds) :: ρ)) fun d => if ds.length < 16777216 then ret (.nx (x0 :: x1 :: x2 :: x3 :: x4 :: x5 :: x6 :: x7 :: x8 :: x9 :: x10 :: x11 :: x12 :: x13 :: x14 :: some (.own (ds ++ [d])) :: ρ)) else none := rfl
@[simp] theorem w_catO15 {x0 x1 x2 x3 x4 x5 x6 x7 x8 x9 x10 x11 x12 x13 x14 : Option Sl} : mCatO 15 f (x0 :: x1 :: x2 :: x3 :: x4 :: x5 :: x6 :: x7 :: x8 :: x9 :: x10 :: x11 :: x12 :: x13 :: x14 :: some (.own ds) :: ρ) = bnd (f (x0 :: x1 :: x2 :: x3 :: x4 :: x5 :: x6 :: x7 :: x8 :: x9 :: x10 :: x11 :: x12 :: x13 :: x14 :: some (.own ds) :: ρ)) fun d => match d with
  | .list es => if ds.length + es.length ≤ 16777216 then ret (ds ++ es) else none
  | _ => none := rfl
@[simp] theorem w_retO15 {x0 x1 x2 x3 x4 x5 x6 x7 x8 x9 x10 x11 x12 x13 x14 : Option Sl} : sRetO 15 (x0 :: x1 :: x2 :: x3 :: x4 :: x5 :: x6 :: x7 :: x8 :: x9 :: x10 :: x11 :: x12 :: x13 :: x14 :: some (.own ds) :: ρ) = ret (.rt (.list ds)) := rfl
@[simp] theorem w_app16 {x0 x1 x2 x3 x4 x5 x6 x7 x8 x9 x10 x11 x12 x13 x14 x15 : Option Sl} : sApp 16 f (x0 :: x1 :: x2 :: x3 :: x4 :: x5 :: x6 :: x7 :: x8 :: x9 :: x10 :: x11 :: x12 :: x13 :: x14 :: x15 :: some (.own ds) :: ρ) = bnd (f (x0 :: x1 :: x2 :: x3 :: x4 :: x5 :: x6 :: x7 :: x8 :: x9 :: x10 :: x11 :: x12 :: x13 :: x14 :: x15 :: some (.own ds) :: ρ)) fun d => if ds.length < 16777216 then ret (.nx (x0 :: x1 :: x2 :: x3 :: x4 :: x5 :: x6 :: x7 :: x8 :: x9 :: x10 :: x11 :: x12 :: x13 :: x14 :: x15 :: some (.own (ds ++ [d])) :: ρ)) else none := rfl
@[simp] theorem w_catO16 {x0 x1 x2 x3 x4 x5 x6 x7 x8 x9 x10 x11 x12 x13 x14 x15 : Option Sl} : mCatO 16 f (x0 :: x1 :: x2 :: x3 :: x4 :: x5 :: x6 :: x7 :: x8 :: x9 :: x10 :: x11 :: x12 :: x13 :: x14 :: x15 :: some (.own ds) :: ρ) = bnd (f (x0 :: x1 :: x2 :: x3 :: x4 :: x5 :: x6 :: x7 :: x8 :: x9 :: x10 :: x11 :: x12 :: x13 :: x14 :: x15 :: some (.own ds) :: ρ)) fun d => match d with
  | .list es => if ds.length + es.length ≤ 16777216 then ret (ds ++ es) else none
  | _ => none := rfl
@[simp] theorem w_retO16 {x0 x1 x2 x3 x4 x5 x6 x7 x8 x9 x10 x11 x12 x13 x14 x15 : Option Sl} : sRetO 16 (x0 :: x1 :: x2 :: x3 :: x4 :: x5 :: x6 :: x7 :: x8 :: x9 :: x10 :: x11 :: x12 :: x13 :: x14 :: x15 :: some (.own ds) :: ρ) = ret (.rt (.list ds)) := rfl
@[simp] theorem w_app17 {x0 x1 x2 x3 x4 x5 x6 x7 x8 x9 x10 x11 x12 x13 x14 x15 x16 : Option Sl} : sApp 17 f (x0 :: x1 :: x2 :: x3 :: x4 :: x5 :: x6 :: x7 :: x8 :: x9 :: x10 :: x11 :: x12 :: x13 :: x14 :: x15 :: x16 :: some (.own ds) :: ρ) = bnd (f (x0 :: x1 :: x2 :: x3 :: x4 :: x5 :: x6 :: x7 :: x8 :: x9 :: x10 :: x11 :: x12 :: x13 :: x14 :: x15 :: x16 :: some (.own ds) :: ρ)) fun d => if ds.length < 16777216 then ret (.nx (x0 :: x1 :: x2 :: x3 :: x4 :: x5 :: x6 :: x7 :: x8 :: x9 :: x10 :: x11 :: x12 :: x13 :: x14 :: x15 :: x16 :: some (.own (ds ++ [d])) :: ρ)) else none := rfl
@[simp] theorem w_catO17 {x0 x1 x2 x3 x4 x5 x6 x7 x8 x9 x10 x11 x12 x13 x14 x15 x16 : Option Sl} : mCatO 17 f (x0 :: x1 :: x2 :: x3 :: x4 :: x5 :: x6 :: x7 :: x8 :: x9 :: x10 :: x11 :: x12 :: x13 :: x14 :: x15 :: x16 :: some (.own ds) :: ρ) = bnd (f (x0 :: x1 :: x2 :: x3 :: x4 :: x5 :: x6 :: x7 :: x8 :: x9 :: x10 :: x11 :: x12 :: x13 :: x14 :: x15 :: x16 :: some (.own ds) :: ρ)) fun d => match d with
  | .list es => if ds.length + es.length ≤ 16777216 then ret (ds ++ es) else none
  | _ => none := rfl
@[simp] theorem w_retO17 {x0 x1 x2 x3 x4 x5 x6 x7 x8 x9 x10 x11 x12 x13 x14 x15 x16 : Option Sl} : sRetO 17 (x0 :: x1 :: x2 :: x3 :: x4 :: x5 :: x6 :: x7 :: x8 :: x9 :: x10 :: x11 :: x12 :: x13 :: x14 :: x15 :: x16 :: some (.own ds) :: ρ) = ret (.rt (.list ds)) := rfl
@[simp] theorem w_app18 {x0 x1 x2 x3 x4 x5 x6 x7 x8 x9 x10 x11 x12 x13 x14 x15 x16 x17 : Option Sl} : sApp 18 f (x0 :: x1 :: x2 :: x3 :: x4 :: x5 :: x6 :: x7 :: x8 :: x9 :: x10 :: x11 :: x12 :: x13 :: x14 :: x15 :: x16 :: x17 :: some (.own ds) :: ρ) = bnd (f (x0 :: x1 :: x2 :: x3 :: x4 :: x5 :: x6 :: x7 :: x8 :: x9 :: x10 :: x11 :: x12 :: x13 :: x14 :: x15 :: x16 :: x17 :: some (.own ds) :: ρ)) fun d => if ds.length < 16777216 then ret (.nx (x0 :: x1 :: x2 :: x3 :: x4 :: x5 :: x6 :: x7 :: x8 :: x9 :: x10 :: x11 :: x12 :: x13 :: x14 :: x15 :: x16 :: x17 :: some (.own (ds ++ [d])) :: ρ)) else none := rfl
@[simp] theorem w_catO18 {x0 x1 x2 x3 x4 x5 x6 x7 x8 x9 x10 x11 x12 x13 x14 x15 x16 x17 : Option Sl} : mCatO 18 f (x0 :: x1 :: x2 :: x3 :: x4 :: x5 :: x6 :: x7 :: x8 :: x9 :: x10 :: x11 :: x12 :: x13 :: x14 :: x15 :: x16 :: x17 :: some (.own ds) :: ρ) = bnd (f (x0 :: x1 :: x2 :: x3 :: x4 :: x5 :: x6 :: x7 :: x8 :: x9 :: x10 :: x11 :: x12 :: x13 :: x14 :: x15 :: x16 :: x17 :: some (.own ds) :: ρ)) fun d => match d with
  | .list es => if ds.length + es.length ≤ 16777216 then ret (ds ++ es) else none
  | _ => none := rfl
@[simp] theorem w_retO18 {x0 x1 x2 x3 x4 x5 x6 x7 x8 x9 x10 x11 x12 x13 x14 x15 x16 x17 : Option Sl} : sRetO 18 (x0 :: x1 :: x2 :: x3 :: x4 :: x5 :: x6 :: x7 :: x8 :: x9 :: x10 :: x11 :: x12 :: x13 :: x14 :: x15 :: x16 :: x17 :: some (.own ds) :: ρ) = ret (.rt (.list ds)) := rfl
@[simp] theorem w_app19 {x0 x1 x2 x3 x4 x5 x6 x7 x8 x9 x10 x11 x12 x13 x14 x15 x16 x17 x18 : Option Sl} : sApp 19 f (x0 :: x1 :: x2 :: x3 :: x4 :: x5 :: x6 :: x7 :: x8 :: x9 :: x10 :: x11 :: x12 :: x13 :: x14 :: x15 :: x16 :: x17 :: x18 :: some (.own ds) :: ρ) = bnd (f (x0 :: x1 :: x2 :: x3 :: x4 :: x5 :: x6 :: x7 :: x8 :: x9 :: x10 :: x11 :: x12 :: x13 :: x14 :: x15 :: x16 :: x17 :: x18 :: some (.own ds) :: ρ)) fun d => if ds.length < 16777216 then ret (.nx (x0 :: x1 :: x2 :: x3 :: x4 :: x5 :: x6 :: x7 :: x8 :: x9 :: x10 :: x11 :: x12 :: x13 :: x14 :: x15 :: x16 :: x17 :: x18 :: some (.own (ds ++ [d])) :: ρ)) else none := rfl
@[simp] theorem w_catO19 {x0 x1 x2 x3 x4 x5 x6 x7 x8 x9 x10 x11 x12 x13 x14 x15 x16 x17 x18 : Option Sl} : mCatO 19 f (x0 :: x1 :: x2 :: x3 :: x4 :: x5 :: x6 :: x7 :: x8 :: x9 :: x10 :: x11 :: x12 :: x13 :: x14 :: x15 :: x16 :: x17 :: x18 :: some (.own ds) :: ρ) = bnd (f (x0 :: x1 :: x2 :: x3 :: x4 :: x5 :: x6 :: x7 :: x8 :: x9 :: x10 :: x11 :: x12 :: x13 :: x14 :: x15 :: x16 :: x17 :: x18 :: some (.own ds) :: ρ)) fun d => match d with
  | .list es => if ds.length + es.length ≤ 16777216 then ret (ds ++ es) else none
  | _ => none := rfl
@[simp] theorem w_retO19 {x0 x1 x2 x3 x4 x5 x6 x7 x8 x9 x10 x11 x12 x13 x14 x15 x16 x17 x18 : Option Sl} : sRetO 19 (x0 :: x1 :: x2 :: x3 :: x4 :: x5 :: x6 :: x7 :: x8 :: x9 :: x10 :: x11 :: x12 :: x13 :: x14 :: x15 :: x16 :: x17 :: x18 :: some (.own ds) :: ρ) = ret (.rt (.list ds)) := rfl
@[simp] theorem w_app20 {x0 x1 x2 x3 x4 x5 x6 x7 x8 x9 x10 x11 x12 x13 x14 x15 x16 x17 x18 x19 : Option Sl} : sApp 20 f (x0 :: x1 :: x2 :: x3 :: x4 :: x5 :: x6 :: x7 :: x8 :: x9 :: x10 :: x11 :: x12 :: x13 :: x14 :: x15 :: x16 :: x17 :: x18 :: x19 :: some (.own ds) :: ρ) = bnd (f (x0 :: x1 :: x2 :: x3 :: x4 :: x5 :: x6 :: x7 :: x8 :: x9 :: x10 :: x11 :: x12 :: x13 :: x14 :: x15 :: x16 :: x17 :: x18 :: x19 :: some (.own ds) :: ρ)) fun d => if ds.length < 16777216 then ret (.nx (x0 :: x1 :: x2 :: x3 :: x4 :: x5 :: x6 :: x7 :: x8 :: x9 :: x10 :: x11 :: x12 :: x13 :: x14 :: x15 :: x16 :: x17 :: x18 :: x19 :: some (.own (ds ++ [d])) :: ρ)) else none := rfl
@[simp] theorem w_catO20 {x0 x1 x2 x3 x4 x5 x6 x7 x8 x9 x10 x11 x12 x13 x14 x15 x16 x17 x18 x19 : Option Sl} : mCatO 20 f (x0 :: x1 :: x2 :: x3 :: x4 :: x5 :: x6 :: x7 :: x8 :: x9 :: x10 :: x11 :: x12 :: x13 :: x14 :: x15 :: x16 :: x17 :: x18 :: x19 :: some (.own ds) :: ρ) = bnd (f (x0 :: x1 :: x2 :: x3 :: x4 :: x5 :: x6 :: x7 :: x8 :: x9 :: x10 :: x11 :: x12 :: x13 :: x14 :: x15 :: x16 :: x17 :: x18 :: x19 :: some (.own ds) :: ρ)) fun d => match d with
  | .list es => if ds.length + es.length ≤ 16777216 then ret (ds ++ es) else none
  | _ => none := rfl
@[simp] theorem w_retO20 {x0 x1 x2 x3 x4 x5 x6 x7 x8 x9 x10 x11 x12 x13 x14 x15 x16 x17 x18 x19 : Option Sl} : sRetO 20 (x0 :: x1 :: x2 :: x3 :: x4 :: x5 :: x6 :: x7 :: x8 :: x9 :: x10 :: x11 :: x12 :: x13 :: x14 :: x15 :: x16 :: x17 :: x18 :: x19 :: some (.own ds) :: ρ) = ret (.rt (.list ds)) := rfl
@[simp] theorem w_app21 {x0 x1 x2 x3 x4 x5 x6 x7 x8 x9 x10 x11 x12 x13 x14 x15 x16 x17 x18 x19 x20 : Option Sl} : sApp 21 f (x0 :: x1 :: x2 :: x3 :: x4 :: x5 :: x6 :: x7 :: x8 :: x9 :: x10 :: x11 :: x12 :: x13 :: x14 :: x15 :: x16 :: x17 :: x18 :: x19 :: x20 :: some (.own ds) :: ρ) = bnd (f (x0 :: x1 :: x2 :: x3 :: x4 :: x5 :: x6 :: x7 :: x8 :: x9 :: x10 :: x11 :: x12 :: x13 :: x14 :: x15 :: x16 :: x17 :: x18 :: x19 :: x20 :: some (.own ds) :: ρ)) fun d => if ds.length < 16777216 then ret (.nx (x0 :: x1 :: x2 :: x3 :: x4 :: x5 :: x6 :: x7 :: x8 :: x9 :: x10 :: x11 :: x12 :: x13 :: x14 :: x15 :: x16 :: x17 :: x18 :: x19 :: x20 :: some (.own (ds ++ [d])) :: ρ)) else none := rfl
@[simp] theorem w_catO21 {x0 x1 x2 x3 x4 x5 x6 x7 x8 x9 x10 x11 x12 x13 x14 x15 x16 x17 x18 x19 x20 : Option Sl} : mCatO 21 f (x0 :: x1 :: x2 :: x3 :: x4 :: x5 :: x6 :: x7 :: x8 :: x9 :: x10 :: x11 :: x12 :: x13 :: x14 :: x15 :: x16 :: x17 :: x18 :: x19 :: x20 :: some (.own ds) :: ρ) = bnd (f (x0 :: x1 :: x2 :: x3 :: x4 :: x5 :: x6 :: x7 :: x8 :: x9 :: x10 :: x11 :: x12 :: x13 :: x14 :: x15 :: x16 :: x17 :: x18 :: x19 :: x20 :: some (.own ds) :: ρ)) fun d => match d with
  | .list es => if ds.length + es.length ≤ 16777216 then ret (ds ++ es) else none
  | _ => none := rfl
@[simp] theorem w_retO21 {x0 x1 x2 x3 x4 x5 x6 x7 x8 x9 x10 x11 x12 x13 x14 x15 x16 x17 x18 x19 x20 : Option Sl} : sRetO 21 (x0 :: x1 :: x2 :: x3 :: x4 :: x5 :: x6 :: x7 :: x8 :: x9 :: x10 :: x11 :: x12 :: x13 :: x14 :: x15 :: x16 :: x17 :: x18 :: x19 :: x20 :: some (.own ds) :: ρ) = ret (.rt (.list ds)) := rfl
@[simp] theorem w_app22 {x0 x1 x2 x3 x4 x5 x6 x7 x8 x9 x10 x11 x12 x13 x14 x15 x16 x17 x18 x19 x20 x21 : Option Sl} : sApp 22 f (x0 :: x1 :: x2 :: x3 :: x4 :: x5 :: x6 :: x7 :: x8 :: x9 :: x10 :: x11 :: x12 :: x13 :: x14 :: x15 :: x16 :: x17 :: x18 :: x19 :: x20 :: x21 :: some (.own ds) :: ρ) = bnd (f (x0 :: x1 :: x2 :: x3 :: x4 :: x5 :: x6 :: x7 :: x8 :: x9 :: x10 :: x11 :: x12 :: x13 :: x14 :: x15 :: x16 :: x17 :: x18 :: x19 :: x20 :: x21 :: some (.own ds) :: ρ)) fun d => if ds.length < 16777216 then ret (.nx (x0 :: x1 :: x2 :: x3 :: x4 :: x5 :: x6 :: x7 :: x8 :: x9 :: x10 :: x11 :: x12 :: x13 :: x14 :: x15 :: x16 :: x17 :: x18 :: x19 :: x20 :: x21 :: some (.own (ds ++ [d])) :: ρ)) else none := rfl
@[simp] theorem w_catO22 {x0 x1 x2 x3 x4 x5 x6 x7 x8 x9 x10 x11 x12 x13 x14 x15 x16 x17 x18 x19 x20 x21 : Option Sl} : mCatO 22 f (x0 :: x1 :: x2 :: x3 :: x4 :: x5 :: x6 :: x7 :: x8 :: x9 :: x10 :: x11 :: x12 :: x13 :: x14 :: x15 :: x16 :: x17 :: x18 :: x19 :: x20 :: x21 :: some (.own ds) :: ρ) = bnd (f (x0 :: x1 :: x2 :: x3 :: x4 :: x5 :: x6 :: x7 :: x8 :: x9 :: x10 :: x11 :: x12 :: x13 :: x14 :: x15 :: x16 :: x17 :: x18 :: x19 :: x20 :: x21 :: some (.own ds) :: ρ)) fun d => match d with
  | .list es => if ds.length + es.length ≤ 16777216 then ret (ds ++ es) else none
  | _ => none := rfl
@[simp] theorem w_retO22 {x0 x1 x2 x3 x4 x5 x6 x7 x8 x9 x10 x11 x12 x13 x14 x15 x16 x17 x18 x19 x20 x21 : Option Sl} : sRetO 22 (x0 :: x1 :: x2 :: x3 :: x4 :: x5 :: x6 :: x7 :: x8 :: x9 :: x10 :: x11 :: x12 :: x13 :: x14 :: x15 :: x16 :: x17 :: x18 :: x19 :: x20 :: x21 :: some (.own ds) :: ρ) = ret (.rt (.list ds)) := rfl
@[simp] theorem w_app23 {x0 x1 x2 x3 x4 x5 x6 x7 x8 x9 x10 x11 x12 x13 x14 x15 x16 x17 x18 x19 x20 x21 x22 : Option Sl} : sApp 23 f (x0 :: x1 :: x2 :: x3 :: x4 :: x5 :: x6 :: x7 :: x8 :: x9 :: x10 :: x11 :: x12 :: x13 :: x14 :: x15 :: x16 :: x17 :: x18 :: x19 :: x20 :: x21 :: x22 :: some (.own ds) :: ρ) = bnd (f (x0 :: x1 :: x2 :: x3 :: x4 :: x5 :: x6 :: x7 :: x8 :: x9 :: x10 :: x11 :: x12 :: x13 :: x14 :: x15 :: x16 :: x17 :: x18 :: x19 :: x20 :: x21 :: x22 :: some (.own ds) :: ρ)) fun d => if ds.length < 16777216 then ret (.nx (x0 :: x1 :: x2 :: x3 :: x4 :: x5 :: x6 :: x7 :: x8 :: x9 :: x10 :: x11 :: x12 :: x13 :: x14 :: x15 :: x16 :: x17 :: x18 :: x19 :: x20 :: x21 :: x22 :: some (.own (ds ++ [d])) :: ρ)) else none := rfl
@[simp] theorem w_catO23 {x0 x1 x2 x3 x4 x5 x6 x7 x8 x9 x10 x11 x12 x13 x14 x15 x16 x17 x18 x19 x20 x21 x22 : Option Sl} : mCatO 23 f (x0 :: x1 :: x2 :: x3 :: x4 :: x5 :: x6 :: x7 :: x8 :: x9 :: x10 :: x11 :: x12 :: x13 :: x14 :: x15 :: x16 :: x17 :: x18 :: x19 :: x20 :: x21 :: x22 :: some (.own ds) :: ρ) = bnd (f (x0 :: x1 :: x2 :: x3 :: x4 :: x5 :: x6 :: x7 :: x8 :: x9 :: x10 :: x11 :: x12 :: x13 :: x14 :: x15 :: x16 :: x17 :: x18 :: x19 :: x20 :: x21 :: x22 :: some (.own ds) :: ρ)) fun d => match d with
  | .list es => if ds.length + es.length ≤ 16777216 then ret (ds ++ es) else none
  | _ => none := rfl
@[simp] theorem w_retO23 {x0 x1 x2 x3 x4 x5 x6 x7 x8 x9 x10 x11 x12 x13 x14 x15 x16 x17 x18 x19 x20 x21 x22 : Option Sl} : sRetO 23 (x0 :: x1 :: x2 :: x3 :: x4 :: x5 :: x6 :: x7 :: x8 :: x9 :: x10 :: x11 :: x12 :: x13 :: x14 :: x15 :: x16 :: x17 :: x18 :: x19 :: x20 :: x21 :: x22 :: some (.own ds) :: ρ) = ret (.rt (.list ds)) := rfl
@[simp] theorem w_app24 {x0 x1 x2 x3 x4 x5 x6 x7 x8 x9 x10 x11 x12 x13 x14 x15 x16 x17 x18 x19 x20 x21 x22 x23 : Option Sl} : sApp 24 f (x0 :: x1 :: x2 :: x3 :: x4 :: x5 :: x6 :: x7 :: x8 :: x9 :: x10 :: x11 :: x12 :: x13 :: x14 :: x15 :: x16 :: x17 :: x18 :: x19 :: x20 :: x21 :: x22 :: x23 :: some (.own ds) :: ρ) = bnd (f (x0 :: x1 :: x2 :: x3 :: x4 :: x5 :: x6 :: x7 :: x8 :: x9 :: x10 :: x11 :: x12 :: x13 :: x14 :: x15 :: x16 :: x17 :: x18 :: x19 :: x20 :: x21 :: x22 :: x23 :: some (.own ds) :: ρ)) fun d => if ds.length < 16777216 then ret (.nx (x0 :: x1 :: x2 :: x3 :: x4 :: x5 :: x6 :: x7 :: x8 :: x9 :: x10 :: x11 :: x12 :: x13 :: x14 :: x15 :: x16 :: x17 :: x18 :: x19 :: x20 :: x21 :: x22 :: x23 :: some (.own (ds ++ [d])) :: ρ)) else none := rfl
@[simp] theorem w_catO24 {x0 x1 x2 x3 x4 x5 x6 x7 x8 x9 x10 x11 x12 x13 x14 x15 x16 x17 x18 x19 x20 x21 x22 x23 : Option Sl} : mCatO 24 f (x0 :: x1 :: x2 :: x3 :: x4 :: x5 :: x6 :: x7 :: x8 :: x9 :: x10 :: x11 :: x12 :: x13 :: x14 :: x15 :: x16 :: x17 :: x18 :: x19 :: x20 :: x21 :: x22 :: x23 :: some (.own ds) :: ρ) = bnd (f (x0 :: x1 :: x2 :: x3 :: x4 :: x5 :: x6 :: x7 :: x8 :: x9 :: x10 :: x11 :: x12 :: x13 :: x14 :: x15 :: x16 :: x17 :: x18 :: x19 :: x20 :: x21 :: x22 :: x23 :: some (.own ds) :: ρ)) fun d => match d with
  | .list es => if ds.length + es.length ≤ 16777216 then ret (ds ++ es) else none
  | _ => none := rfl
@[simp] theorem w_retO24 {x0 x1 x2 x3 x4 x5 x6 x7 x8 x9 x10 x11 x12 x13 x14 x15 x16 x17 x18 x19 x20 x21 x22 x23 : Option Sl} : sRetO 24 (x0 :: x1 :: x2 :: x3 :: x4 :: x5 :: x6 :: x7 :: x8 :: x9 :: x10 :: x11 :: x12 :: x13 :: x14 :: x15 :: x16 :: x17 :: x18 :: x19 :: x20 :: x21 :: x22 :: x23 :: some (.own ds) :: ρ) = ret (.rt (.list ds)) := rfl
@[simp] theorem w_app25 {x0 x1 x2 x3 x4 x5 x6 x7 x8 x9 x10 x11 x12 x13 x14 x15 x16 x17 x18 x19 x20 x21 x22 x23 x24 : Option Sl} : sApp 25 f (x0 :: x1 :: x2 :: x3 :: x4 :: x5 :: x6 :: x7 :: x8 :: x9 :: x10 :: x11 :: x12 :: x13 :: x14 :: x15 :: x16 :: x17 :: x18 :: x19 :: x20 :: x21 :: x22 :: x23 :: x24 :: some (.own ds) :: ρ) = bnd (f (x0 :: x1 :: x2 :: x3 :: x4 :: x5 :: x6 :: x7 :: x8 :: x9 :: x10 :: x11 :: x12 :: x13 :: x14 :: x15 :: x16 :: x17 :: x18 :: x19 :: x20 :: x21 :: x22 :: x23 :: x24 :: some (.own ds) :: ρ)) fun d => if ds.length < 16777216 then ret (.nx (x0 :: x1 :: x2 :: x3 :: x4 :: x5 :: x6 :: x7 :: x8 :: x9 :: x10 :: x11 :: x12 :: x13 :: x14 :: x15 :: x16 :: x17 :: x18 :: x19 :: x20 :: x21 :: x22 :: x23 :: x24 :: some (.own (ds ++ [d])) :: ρ)) else none := rfl
@[simp] theorem w_catO25 {x0 x1 x2 x3 x4 x5 x6 x7 x8 x9 x10 x11 x12 x13 x14 x15 x16 x17 x18 x19 x20 x21 x22 x23 x24 : Option Sl} : mCatO 25 f (x0 :: x1 :: x2 :: x3 :: x4 :: x5 :: x6 :: x7 :: x8 :: x9 :: x10 :: x11 :: x12 :: x13 :: x14 :: x15 :: x16 :: x17 :: x18 :: x19 :: x20 :: x21 :: x22 :: x23 :: x24 :: some (.own ds) :: ρ) = bnd (f (x0 :: x1 :: x2 :: x3 :: x4 :: x5 :: x6 :: x7 :: x8 :: x9 :: x10 :: x11 :: x12 :: x13 :: x14 :: x15 :: x16 :: x17 :: x18 :: x19 :: x20 :: x21 :: x22 :: x23 :: x24 :: some (.own ds) :: ρ)) fun d => match d with
  | .list es => if ds.length + es.length ≤ 16777216 then ret (ds ++ es) else none
  | _ => none := rfl
@[simp] theorem w_retO25 {x0 x1 x2 x3 x4 x5 x6 x7 x8 x9 x10 x11 x12 x13 x14 x15 x16 x17 x18 x19 x20 x21 x22 x23 x24 : Option Sl} : sRetO 25 (x0 :: x1 :: x2 :: x3 :: x4 :: x5 :: x6 :: x7 :: x8 :: x9 :: x10 :: x11 :: x12 :: x13 :: x14 :: x15 :: x16 :: x17 :: x18 :: x19 :: x20 :: x21 :: x22 :: x23 :: x24 :: some (.own ds) :: ρ) = ret (.rt (.list ds)) := rfl
@[simp] theorem w_endn : endD (.nx ρ) = ret .none := rfl
@[simp] theorem w_endr : endD (.rt d) = ret d := rfl
@[simp] theorem w_enfr : endF (.rt (.list ds)) = ret ds := rfl
@[simp] theorem w_tgN : tgN i d ρ = ret (ρ.set i (some (.imm d))) := rfl
@[simp] theorem w_tgsNil : tgsNil [] ρ = ret ρ := rfl
@[simp] theorem w_tgsCons {tf : PyData → Rho → M Rho} {tg : List PyData → Rho → M Rho} : tgsCons tf tg (d :: ds) ρ = bnd (tf d ρ) fun ρ' => tg ds ρ' := rfl
@[simp] theorem w_tgT {tg : List PyData → Rho → M Rho} : tgT n tg (.tuple ds) ρ = if ds.length = n then tg ds ρ else none := rfl
@[simp] theorem w_mInst {T : String} : mInst T f ρ = bnd (f ρ) fun d => ret (isInst T d) := rfl
@[simp] theorem w_fnD {ds : List PyData} : fnD n s ds = bnd (s (startR n ds)) endD := rfl
@[simp] theorem w_fnF {ds : List PyData} : fnF n s ds = bnd (s (startR n ds)) endF := rfl
@[simp] theorem w_bret {α : Type} {m : M α} : bnd m ret = m := by
  cases m with
  | none => rfl
  | some r => cases r <;> rfl
@[simp] theorem w_eqi {i j : Int} : pyEq (.int i) (.int j) = ret (decide (i = j)) := by
  unfold pyEq
  rw [if_pos ⟨rfl, rfl, Nat.zero_le 64⟩]
  rfl
@[simp] theorem w_nei {i j : Int} : pyNe (.int i) (.int j) = ret (!decide (i = j)) := by
  unfold pyNe
  rw [if_pos ⟨rfl, rfl, Nat.zero_le 64⟩]
  rfl
@[simp] theorem w_lst1 : lstOf (.list ds) = some ds := rfl
@[simp] theorem w_lst2 : lstOf (.dict [(.none, .list ds)]) = some ds := rfl
@[simp] theorem w_ofs {α β : Type} {a : α} {k : α → β} : ofO (some a) k = ret (k a) := rfl
@[simp] theorem w_mTs : mTs f ρ = bnd (f ρ) fun d => match d with
  | .tuple ds => ret ds
  | _ => none := rfl
@[simp] theorem w_mLs : mLs f ρ = bnd (f ρ) fun d => ofO (lstOf d) fun ds => ds := rfl
theorem w_mRng1 : mRng1 fa ρ = bnd (fa ρ) fun vs => match vs with
  | [.int j] => if -1000000000 ≤ j ∧ j < 1000000000 then ret ((List.range j.toNat).map fun i : Nat => PyData.int (i : Int)) else none
  | _ => none := rfl
theorem w_mRng2 : mRng2 fa ρ = bnd (fa ρ) fun vs => match vs with
  | [.int i, .int j] => if -1000000000 ≤ i ∧ i < 1000000000 ∧ -1000000000 ≤ j ∧ j < 1000000000 then ret ((List.range (j - i).toNat).map fun k : Nat => PyData.int (i + (k : Int))) else none
  | _ => none := rfl
@[simp] theorem w_mEnum : mEnum fa ρ = bnd (fa ρ) fun vs => match vs with
  | [d] => ofO (lstOf d) fun ds => (List.range ds.length).map fun i : Nat => PyData.tuple [.int (i : Int), ds.getD i .none]
  | _ => none := rfl
@[simp] theorem w_mZip : mZip fa ρ = bnd (fa ρ) fun vs => match vs with
  | [d, e] => match lstOf d, lstOf e with
    | some ds, some es => ret ((List.range (min ds.length es.length)).map fun i : Nat => PyData.tuple [ds.getD i .none, es.getD i .none])
    | _, _ => none
  | _ => none := rfl
@[simp] theorem w_loop0 {g : PyData → Rho → M Rho} : loopM g s [] ρ = ret (.nx ρ) := rfl
@[simp] theorem w_loop1 {g : PyData → Rho → M Rho} : loopM g s (d :: ds) ρ = bnd (g d ρ) fun ρ1 => bnd (s ρ1) fun o => loopO o (loopM g s ds) := rfl
theorem w_sFor {g : PyData → Rho → M Rho} : sFor g fa s ρ = bnd (fa ρ) fun ds => loopM g s ds ρ := rfl
@[simp] theorem w_lon {k : Rho → M Out} : loopO (.nx ρ) k = k ρ := rfl
@[simp] theorem w_loc {k : Rho → M Out} : loopO (.ct ρ) k = k ρ := rfl
@[simp] theorem w_lob {k : Rho → M Out} : loopO (.bk ρ) k = ret (.nx ρ) := rfl
@[simp] theorem w_lor {k : Rho → M Out} : loopO (.rt d) k = ret (.rt d) := rfl
@[simp] theorem w_isl {T : String} : isInst T (.list ds) = isInstN T "list" := rfl
@[simp] theorem w_ist {T : String} : isInst T (.tuple ds) = isInstN T "tuple" := rfl
@[simp] theorem w_isi {T : String} {i : Int} : isInst T (.int i) = isInstN T "int" := rfl
@[simp] theorem w_isb {T : String} {b : Bool} : isInst T (.bool b) = isInstN T "bool" := rfl
@[simp] theorem w_iss {T : String} {z : Str} : isInst T (.str z) = isInstN T "str" := rfl
@[simp] theorem w_isn {T : String} : isInst T .none = isInstN T "NoneType" := rfl
end
theorem rng1_of {n : Nat} (h : fa ρ = ret [.int (n : Int)]) (hn : n ≤ 100000000) : mRng1 fa ρ = ret ((List.range n).map fun i : Nat => PyData.int (i : Int)) := by
  rw [w_mRng1, h, bnd_ret]
  have c : (-1000000000 : Int) ≤ (n : Int) ∧ (n : Int) < 1000000000 := ⟨by omega, by omega⟩
  dsimp only
  rw [if_pos c, Int.toNat_natCast]
theorem rng2_of {i j : Int} (h : fa ρ = ret [.int i, .int j]) (c : -1000000000 ≤ i ∧ i < 1000000000 ∧ -1000000000 ≤ j ∧ j < 1000000000) : mRng2 fa ρ = ret ((List.range (j - i).toNat).map fun k : Nat => PyData.int (i + (k : Int))) := by
  rw [w_mRng2, h, bnd_ret]
  dsimp only
  rw [if_pos c]
@[simp] theorem w_ifand {p : Prop} [Decidable p] {c : Bool} : (if p then ret c else ret false : M Bool) = ret (decide p && c) := by by_cases h : p <;> simp [h]
@[simp] theorem w_ifor {p : Prop} [Decidable p] {c : Bool} : (if p then ret true else ret c : M Bool) = ret (decide p || c) := by by_cases h : p <;> simp [h]
@[simp] theorem w_ifbnd {α β : Type} {p : Prop} [Decidable p] {x y : M α} {k : α → M β} : bnd (if p then x else y) k = if p then bnd x k else bnd y k := by by_cases h : p <;> simp [h]
/-! ### loops -/
theorem loop_nx {g : PyData → Rho → M Rho} {b : Rho → M Out} (P : Nat → Rho → Prop) : ∀ (ds : List PyData) (k : Nat) (ρ : Rho), P k ρ → (∀ i d ρ, ds[i]? = some d → P (k + i) ρ → ∃ ρ', (bnd (g d ρ) b = ret (.nx ρ') ∨ bnd (g d ρ) b = ret (.ct ρ')) ∧ P (k + i + 1) ρ') → ∃ ρ', loopM g b ds ρ = ret (.nx ρ') ∧ P (k + ds.length) ρ'
  | [], k, ρ, h0, _ => ⟨ρ, rfl, h0⟩
  | d :: ds, k, ρ, h0, hs => by
    obtain ⟨ρ1, e1, p1⟩ := hs 0 d ρ rfl h0
    obtain ⟨ρ2, e2, p2⟩ := loop_nx P ds (k + 1) ρ1 p1 fun i d' ρ' e p => by
      have q := hs (i + 1) d' ρ' (by rw [List.getElem?_cons_succ]; exact e) (by rw [show k + (i + 1) = k + 1 + i by omega]; exact p)
      rw [show k + (i + 1) + 1 = k + 1 + i + 1 by omega] at q
      exact q
    refine ⟨ρ2, ?_, by rw [List.length_cons, show k + (ds.length + 1) = k + 1 + ds.length by omega]; exact p2⟩
    show bnd (g d ρ) (fun ρ1 => bnd (b ρ1) fun o => loopO o (loopM g b ds)) = _
    have asc : bnd (g d ρ) (fun ρ1 => bnd (b ρ1) fun o => loopO o (loopM g b ds)) = bnd (bnd (g d ρ) b) fun o => loopO o (loopM g b ds) := by
      cases g d ρ with
      | none => rfl
      | some r => cases r <;> rfl
    rw [asc]
    rcases e1 with e1 | e1
    · rw [e1]
      exact e2
    · rw [e1]
      exact e2
theorem for_nx {g : PyData → Rho → M Rho} {b : Rho → M Out} {fa : Rho → M (List PyData)} {ρ : Rho} {ds : List PyData} (P : Nat → Rho → Prop) (hf : fa ρ = ret ds) (h0 : P 0 ρ) (hs : ∀ i d ρ, ds[i]? = some d → P i ρ → ∃ ρ', (bnd (g d ρ) b = ret (.nx ρ') ∨ bnd (g d ρ) b = ret (.ct ρ')) ∧ P (i + 1) ρ') :
    ∃ ρ', sFor g fa b ρ = ret (.nx ρ') ∧ P ds.length ρ' := by
  obtain ⟨ρ', e, p⟩ := loop_nx P ds 0 ρ h0 (fun i d ρ e p => by
    rw [Nat.zero_add] at p ⊢
    exact hs i d ρ e p)
  rw [Nat.zero_add] at p
  refine ⟨ρ', ?_, p⟩
  unfold sFor
  rw [hf]
  exact e
theorem seq_eq {f g : Rho → M Out} {ρ ρ' : Rho} {r : M Out} (h1 : f ρ = ret (.nx ρ')) (h2 : g ρ' = r) : sSeq f g ρ = r := by
  rw [w_sSeq, h1]
  exact h2
theorem map_range {f : Nat → PyData} {n i : Nat} {d : PyData} (h : ((List.range n).map f)[i]? = some d) : i < n ∧ d = f i := by
  rw [List.getElem?_map] at h
  cases q : (List.range n)[i]? with
  | none => rw [q] at h; cases h
  | some j =>
    obtain ⟨hj, ej⟩ := List.getElem?_eq_some_iff.mp q
    rw [List.getElem_range] at ej
    rw [List.length_range] at hj
    subst ej
    rw [q] at h
    cases h
    exact ⟨hj, rfl⟩
end VW
namespace VW
open PySem PySem.Spec PyProof.Rows L2
def m_is_whole : Rho → M Out := (sRet (mB (mAnd (mInst "int" (mV 0)) (mNot (mInst "bool" (mV 0))))))
def F_is_whole : List PyData → M PyData := fnD 1 m_is_whole
def lb_is_note_1 : Rho → M Out := (sIf (mNot (mIsB (mCall F_is_whole (mCons (mV 1) mNil)))) (sRet (mC (.bool false))) sNx)
def m_is_note : Rho → M Out := (sSeq (sIf (mOr (mNot (mIsB (mB (mInst "tuple" (mV 0))))) (m2B pyNe (mCall pyLen (mCons (mV 0) mNil)) (mC (.int 3)))) (sRet (mC (.bool false))) sNx) (sSeq (sFor (tgN 1) (mTs (mV 0)) lb_is_note_1) (sSeq (sIf (mOr (m2B pyLt (m2 pyIx (mV 0) (mC (.int 0))) (mC (.int 0))) (mOr (m2B pyLt (m2 pyIx (mV 0) (mC (.int 1))) (mC (.int 1))) (m2B pyGt (m2 pyAdd (m2 pyIx (mV 0) (mC (.int 0))) (m2 pyIx (mV 0) (mC (.int 1)))) (mC (.int 100000))))) (sRet (mC (.bool false))) sNx) (sRet (mB (mChain pyLe pyLe (m1 pyNeg (mC (.int 200))) (m2 pyIx (mV 0) (mC (.int 2))) (mC (.int 200))))))))
def F_is_note : List PyData → M PyData := fnD 2 m_is_note
def m_end_of : Rho → M Out := (sRet (m2 pyAdd (m2 pyIx (mV 0) (mC (.int 0))) (m2 pyIx (mV 0) (mC (.int 1)))))
def F_end_of : List PyData → M PyData := fnD 1 m_end_of
def lb_is_voice_1 : Rho → M Out := (sSeq (sIf (mOr (mNot (mIsB (mCall F_is_note (mCons (mV 2) mNil)))) (m2B pyLt (m2 pyIx (mV 2) (mC (.int 0))) (mV 1))) (sRet (mC (.bool false))) sNx) (sSet 1 (mCall F_end_of (mCons (mV 2) mNil))))
def m_is_voice : Rho → M Out := (sSeq (sIf (mNot (mIsB (mB (mInst "list" (mV 0))))) (sRet (mC (.bool false))) sNx) (sSeq (sSet 1 (mC (.int 0))) (sSeq (sFor (tgN 2) (mLs (mV 0)) lb_is_voice_1) (sRet (mC (.bool true))))))
def F_is_voice : List PyData → M PyData := fnD 3 m_is_voice
def lb_need_piece_1 : Rho → M Out := (sIf (mNot (mIsB (mCall F_is_voice (mCons (mV 1) mNil)))) sNever sNx)
def m_need_piece : Rho → M Out := (sSeq (sIf (mOr (mNot (mIsB (mB (mInst "list" (mV 0))))) (mNot (mChain pyLe pyLe (mC (.int 1)) (mCall pyLen (mCons (mV 0) mNil)) (mC (.int 6))))) sNever sNx) (sFor (tgN 1) (mLs (mV 0)) lb_need_piece_1))
def F_need_piece : List PyData → M PyData := fnD 2 m_need_piece
def m_touches : Rho → M Out := (sRet (mB (mAnd (mChain pyLt pyLt (mC (.int 0)) (mV 1) (mCall pyLen (mCons (mV 0) mNil))) (m2B pyEq (mCall F_end_of (mCons (m2 pyIx (mV 0) (m2 pySub (mV 1) (mC (.int 1)))) mNil)) (m2 pyIx (m2 pyIx (mV 0) (mV 1)) (mC (.int 0)))))))
def F_touches : List PyData → M PyData := fnD 2 m_touches
def m_rise_at : Rho → M Out := (sRet (m2 pySub (m2 pyIx (m2 pyIx (mV 0) (mV 1)) (mC (.int 2))) (m2 pyIx (m2 pyIx (mV 0) (m2 pySub (mV 1) (mC (.int 1)))) (mC (.int 2)))))
def F_rise_at : List PyData → M PyData := fnD 2 m_rise_at
def m_passes : Rho → M Out := (sSeq (sIf (mOr (mNot (mIsB (mCall F_touches (mCons (mV 0) (mCons (mV 1) mNil))))) (mNot (mIsB (mCall F_touches (mCons (mV 0) (mCons (m2 pyAdd (mV 1) (mC (.int 1))) mNil)))))) (sRet (mC (.bool false))) sNx) (sSeq (sSet 2 (mCall F_rise_at (mCons (mV 0) (mCons (mV 1) mNil)))) (sSeq (sSet 3 (mCall F_rise_at (mCons (mV 0) (mCons (m2 pyAdd (mV 1) (mC (.int 1))) mNil)))) (sRet (mB (mOr (mAnd (mChain pyLe pyLe (mC (.int 1)) (mV 2) (mC (.int 2))) (mChain pyLe pyLe (mC (.int 1)) (mV 3) (mC (.int 2)))) (mAnd (mChain pyLe pyLe (m1 pyNeg (mC (.int 2))) (mV 2) (m1 pyNeg (mC (.int 1)))) (mChain pyLe pyLe (m1 pyNeg (mC (.int 2))) (mV 3) (m1 pyNeg (mC (.int 1)))))))))))
def F_passes : List PyData → M PyData := fnD 4 m_passes
def lb_leap_faults_1 : Rho → M Out := (sIf (mAnd (mIsB (mCall F_touches (mCons (mV 0) (mCons (mV 3) mNil)))) (m2B pyGt (mCall pyAbs (mCons (mCall F_rise_at (mCons (mV 0) (mCons (mV 3) mNil))) mNil)) (mC (.int 12)))) (sApp 2 (mTup (mCons (m2 pyIx (mV 4) (mC (.int 0))) (mCons (m2 pyIx (mV 4) (mC (.int 0))) (mCons (mC (.str (PySem.Str.ofString "leap"))) (mCons (mV 1) (mCons (mV 1) mNil))))))) sNx)
def m_leap_faults : Rho → M Out := (sSeq (sOwn 2 (mLst mNil)) (sSeq (sFor (tgT 2 (tgsCons (tgN 3) (tgsCons (tgN 4) tgsNil))) (mEnum (mCons (mV 0) mNil)) lb_leap_faults_1) (sFrz 2 (sRet (mV 2)))))
def F_leap_faults : List PyData → M PyData := fnD 5 m_leap_faults
def m_meeting_faults : Rho → M Out := (sSeq (sSet 5 (m2 pyIx (mV 0) (mV 2))) (sSeq (sSet 6 (m2 pyIx (mV 1) (mV 3))) (sSeq (sSet 7 (mCall pyMax2 (mCons (m2 pyIx (mV 5) (mC (.int 0))) (mCons (m2 pyIx (mV 6) (mC (.int 0))) mNil)))) (sSeq (sSet 8 (mCall pyMin2 (mCons (mCall F_end_of (mCons (mV 5) mNil)) (mCons (mCall F_end_of (mCons (mV 6) mNil)) mNil)))) (sSeq (sIf (m2B pyGe (mV 7) (mV 8)) (sRet (mL (mLst mNil))) sNx) (sSeq (sOwn 9 (mLst mNil)) (sSeq (sSet 10 (m2 pySub (m2 pyIx (mV 5) (mC (.int 2))) (m2 pyIx (mV 6) (mC (.int 2))))) (sSeq (sIf (m2B pyLt (mV 10) (mC (.int 0))) (sApp 9 (mTup (mCons (mV 7) (mCons (mV 8) (mCons (mC (.str (PySem.Str.ofString "cross"))) (mCons (m2 pyIx (mV 4) (mC (.int 0))) (mCons (m2 pyIx (mV 4) (mC (.int 1))) mNil))))))) sNx) (sSeq (sIf (mAnd (m2B pyIn (m2 pyMod (mV 10) (mC (.int 12))) (mC (.tuple [(.int 1), (.int 2), (.int 6), (.int 10), (.int 11)]))) (mAnd (mNot (mIsB (mCall F_passes (mCons (mV 0) (mCons (mV 2) mNil))))) (mNot (mIsB (mCall F_passes (mCons (mV 1) (mCons (mV 3) mNil))))))) (sApp 9 (mTup (mCons (mV 7) (mCons (mV 8) (mCons (mC (.str (PySem.Str.ofString "harsh"))) (mCons (m2 pyIx (mV 4) (mC (.int 0))) (mCons (m2 pyIx (mV 4) (mC (.int 1))) mNil))))))) sNx) (sFrz 9 (sRet (mV 9))))))))))))
def F_meeting_faults : List PyData → M PyData := fnD 11 m_meeting_faults
def m_go_along : Rho → M Out := (sSeq (sIf (mOr (m2B pyNe (m2 pyIx (m2 pyIx (mV 0) (mV 2)) (mC (.int 0))) (m2 pyIx (m2 pyIx (mV 1) (mV 3)) (mC (.int 0)))) (mOr (mNot (mIsB (mCall F_touches (mCons (mV 0) (mCons (mV 2) mNil))))) (mNot (mIsB (mCall F_touches (mCons (mV 1) (mCons (mV 3) mNil))))))) (sRet (mC (.bool false))) sNx) (sSeq (sIf (m2B pyLe (m2 pyMul (mCall F_rise_at (mCons (mV 0) (mCons (mV 2) mNil))) (mCall F_rise_at (mCons (mV 1) (mCons (mV 3) mNil)))) (mC (.int 0))) (sRet (mC (.bool false))) sNx) (sSeq (sSet 4 (m2 pyMod (m2 pySub (m2 pyIx (m2 pyIx (mV 0) (m2 pySub (mV 2) (mC (.int 1)))) (mC (.int 2))) (m2 pyIx (m2 pyIx (mV 1) (m2 pySub (mV 3) (mC (.int 1)))) (mC (.int 2)))) (mC (.int 12)))) (sSeq (sSet 5 (m2 pyMod (m2 pySub (m2 pyIx (m2 pyIx (mV 0) (mV 2)) (mC (.int 2))) (m2 pyIx (m2 pyIx (mV 1) (mV 3)) (mC (.int 2)))) (mC (.int 12)))) (sRet (mB (mAnd (m2B pyEq (mV 4) (mV 5)) (m2B pyIn (mV 4) (mC (.tuple [(.int 0), (.int 7)]))))))))))
def F_go_along : List PyData → M PyData := fnD 6 m_go_along
def lb_pair_faults_2 : Rho → M Out := (sSeq (sOwn 3 (mCatO 3 (mCall F_meeting_faults (mCons (mV 0) (mCons (mV 1) (mCons (mV 4) (mCons (mV 6) (mCons (mV 2) mNil)))))))) (sIf (mIsB (mCall F_go_along (mCons (mV 0) (mCons (mV 1) (mCons (mV 4) (mCons (mV 6) mNil)))))) (sApp 3 (mTup (mCons (m2 pyIx (mV 5) (mC (.int 0))) (mCons (m2 pyIx (mV 5) (mC (.int 0))) (mCons (mC (.str (PySem.Str.ofString "along"))) (mCons (m2 pyIx (mV 2) (mC (.int 0))) (mCons (m2 pyIx (mV 2) (mC (.int 1))) mNil))))))) sNx))
def lb_pair_faults_1 : Rho → M Out := (sFor (tgN 6) (mRng1 (mCons (mCall pyLen (mCons (mV 1) mNil)) mNil)) lb_pair_faults_2)
def m_pair_faults : Rho → M Out := (sSeq (sOwn 3 (mLst mNil)) (sSeq (sFor (tgT 2 (tgsCons (tgN 4) (tgsCons (tgN 5) tgsNil))) (mEnum (mCons (mV 0) mNil)) lb_pair_faults_1) (sFrz 3 (sRet (mV 3)))))
def F_pair_faults : List PyData → M PyData := fnD 7 m_pair_faults
def lb_faults_2 : Rho → M Out := (sSet 1 (m2 pyAdd (mV 1) (mCall F_pair_faults (mCons (mV 3) (mCons (m2 pyIx (mV 0) (mV 4)) (mCons (mTup (mCons (mV 2) (mCons (mV 4) mNil))) mNil))))))
def lb_faults_1 : Rho → M Out := (sSeq (sSet 1 (m2 pyAdd (mV 1) (mCall F_leap_faults (mCons (mV 3) (mCons (mV 2) mNil))))) (sFor (tgN 4) (mRng2 (mCons (m2 pyAdd (mV 2) (mC (.int 1))) (mCons (mCall pyLen (mCons (mV 0) mNil)) mNil))) lb_faults_2))
def m_faults : Rho → M Out := (sSeq (sDrop (mCall F_need_piece (mCons (mV 0) mNil))) (sSeq (sSet 1 (mL (mLst mNil))) (sSeq (sFor (tgT 2 (tgsCons (tgN 2) (tgsCons (tgN 3) tgsNil))) (mEnum (mCons (mV 0) mNil)) lb_faults_1) (sRetF (mCallF pySorted (mCons (mV 1) mNil))))))
def F_faults : List PyData → M (List PyData) := fnF 5 m_faults
end VW
/-! What the program's functions compute, plainly. -/
namespace VW
open PySem PySem.Spec PyProof.Rows L2
abbrev Nt := Int × Int × Int
def nt (n : Nt) : PyData := .tuple [.int n.1, .int n.2.1, .int n.2.2]
def vc (v : List Nt) : PyData := .list (v.map nt)
theorem vc_get {v : List Nt} {i : Nat} {n : Nt} (h : v[i]? = some n) : (v.map nt)[i]? = some (nt n) := by rw [List.getElem?_map, h]; rfl
theorem map_get {α : Type} {f : α → PyData} {v : List α} {i : Nat} {d : PyData} (h : (v.map f)[i]? = some d) : ∃ n, v[i]? = some n ∧ d = f n := by
  rw [List.getElem?_map] at h
  cases hn : v[i]? with
  | none => rw [hn] at h; cases h
  | some n =>
    rw [hn] at h
    cases h
    exact ⟨n, rfl, rfl⟩
@[simp] theorem nt0 {n : Nt} : pyIx (nt n) (.int 0) = ret (.int n.1) := rfl
@[simp] theorem nt1 {n : Nt} : pyIx (nt n) (.int 1) = ret (.int n.2.1) := rfl
@[simp] theorem nt2 {n : Nt} : pyIx (nt n) (.int 2) = ret (.int n.2.2) := rfl
@[simp] theorem F_is_whole_int (i : Int) : F_is_whole [.int i] = ret (.bool true) := by
  simp [F_is_whole, m_is_whole, startR, isInstN]
@[simp] theorem F_end (n : Nt) : F_end_of [nt n] = ret (.int (n.1 + n.2.1)) := by
  simp [F_end_of, m_end_of, startR]
def okN (n : Nt) : Prop := 0 ≤ n.1 ∧ 1 ≤ n.2.1 ∧ n.1 + n.2.1 ≤ 100000 ∧ -200 ≤ n.2.2 ∧ n.2.2 ≤ 200
theorem F_note {n : Nt} (h : okN n) : F_is_note [nt n] = ret (.bool true) := by
  obtain ⟨t, l, p⟩ := n
  obtain ⟨h1, h2, h3, h4, h5⟩ := h
  simp only at h1 h2 h3 h4 h5
  simp [F_is_note, m_is_note, lb_is_note_1, w_sFor, startR, nt, isInstN]
  simp [show ¬ t < 0 by omega, show ¬ l < 1 by omega, show ¬ 100000 < t + l by omega, h4, h5]
/-- the voices that a piece may have -/
def okV (v : List Nt) : Prop := (∀ n ∈ v, okN n) ∧ ∀ (i : Nat) m n, v[i]? = some m → v[i + 1]? = some n → m.1 + m.2.1 ≤ n.1
theorem F_voice {v : List Nt} (h : okV v) : F_is_voice [vc v] = ret (.bool true) := by
  obtain ⟨ρ', e1, x, e, rfl, _⟩ := for_nx (g := tgN 2) (fa := mLs (mV 0)) (b := lb_is_voice_1) (ρ := [some (.imm (.list (v.map nt))), some (.imm (.int 0)), none]) (ds := v.map nt)
    (fun i ρ => ∃ (x : Option Sl) (e : Int), ρ = [some (.imm (.list (v.map nt))), some (.imm (.int e)), x] ∧ ∀ n, v[i]? = some n → e ≤ n.1) rfl ⟨none, 0, rfl, fun n hn => (h.1 n (List.mem_of_getElem? hn)).1⟩ fun i d ρ hd ⟨x, e, hρ, he⟩ => by
      obtain ⟨n, hn, rfl⟩ := map_get hd
      subst hρ
      have ok := h.1 n (List.mem_of_getElem? hn)
      have he := he n hn
      refine ⟨_, .inl ?_, some (.imm (nt n)), n.1 + n.2.1, rfl, fun m hm => h.2 i n m hn hm⟩
      simp [lb_is_voice_1, F_note ok, show ¬ n.1 < e by omega]
  simp [F_is_voice, m_is_voice, startR, isInstN, vc, e1]
/-- the pieces -/
def pc (p : List (List Nt)) : PyData := .list (p.map vc)
def okP (p : List (List Nt)) : Prop := 1 ≤ p.length ∧ p.length ≤ 6 ∧ ∀ v ∈ p, okV v
theorem F_need {p : List (List Nt)} (h : okP p) : F_need_piece [pc p] = ret .none := by
  obtain ⟨h1, h2, h3⟩ := h
  obtain ⟨ρ', e1, x, rfl⟩ := for_nx (g := tgN 1) (fa := mLs (mV 0)) (b := lb_need_piece_1) (ρ := [some (.imm (.list (p.map vc))), none]) (ds := p.map vc)
    (fun i ρ => ∃ (x : Option Sl), ρ = [some (.imm (.list (p.map vc))), x]) rfl ⟨none, rfl⟩ fun i d ρ hd ⟨x, hρ⟩ => by
      obtain ⟨n, hn, rfl⟩ := map_get hd
      subst hρ
      refine ⟨_, .inl ?_, some (.imm (vc n)), rfl⟩
      simp [lb_need_piece_1, F_voice (h3 n (List.mem_of_getElem? hn))]
  simp [F_need_piece, m_need_piece, startR, isInstN, pc, e1, h2, show (1 : Int) ≤ p.length by omega, show (p.length : Int) ≤ 6 by omega]
/-- do two notes touch? -/
def tch (v : List Nt) (i : Nat) : Bool := match v[i]? with
  | some n => match i with
    | 0 => false
    | j + 1 => match v[j]? with
      | some m => decide (m.1 + m.2.1 = n.1)
      | none => false
  | none => false
/-- how far the pitch rises to the note at i -/
def rise (v : List Nt) (i : Nat) : Int := match i with
  | 0 => 0
  | j + 1 => match v[j]?, v[j + 1]? with
    | some m, some n => n.2.2 - m.2.2
    | _, _ => 0
@[simp] theorem F_tch (v : List Nt) (i : Nat) : F_touches [vc v, .int i] = ret (.bool (tch v i)) := by
  unfold tch
  cases hn : v[i]? with
  | none =>
    have hi : v.length ≤ i := by
      rw [List.getElem?_eq_none_iff] at hn
      exact hn
    simp [F_touches, m_touches, startR, vc, show ¬ i < v.length by omega]
  | some n =>
    have hi := (List.getElem?_eq_some_iff.mp hn).1
    cases i with
    | zero => simp [F_touches, m_touches, startR, vc]
    | succ j =>
      obtain ⟨m, hm⟩ : ∃ m, v[j]? = some m := ⟨_, List.getElem?_eq_getElem (by omega)⟩
      have a1 : pyIx (.list (v.map nt)) (.int ((j : Int) + 1)) = ret (nt n) := w_ixl (i := j + 1) (vc_get hn)
      have a2 : pyIx (.list (v.map nt)) (.int (j : Int)) = ret (nt m) := w_ixl (vc_get hm)
      simp [F_touches, m_touches, startR, vc, hm, a1, a2, show (j : Int) + 1 - 1 = j by omega, show (0 : Int) < j + 1 by omega, show (j : Int) + 1 < v.length by omega]
@[simp] theorem F_tchS (v : List Nt) (i : Nat) : F_touches [vc v, .int ((i : Int) + 1)] = ret (.bool (tch v (i + 1))) := F_tch v (i + 1)
theorem F_rise (v : List Nt) {j : Nat} (h : j + 1 < v.length) : F_rise_at [vc v, .int ((j : Int) + 1)] = ret (.int (rise v (j + 1))) := by
  obtain ⟨m, hm⟩ : ∃ m, v[j]? = some m := ⟨_, List.getElem?_eq_getElem (by omega)⟩
  obtain ⟨n, hn⟩ : ∃ n, v[j + 1]? = some n := ⟨_, List.getElem?_eq_getElem h⟩
  have a1 : pyIx (.list (v.map nt)) (.int ((j : Int) + 1)) = ret (nt n) := w_ixl (i := j + 1) (vc_get hn)
  have a2 : pyIx (.list (v.map nt)) (.int (j : Int)) = ret (nt m) := w_ixl (vc_get hm)
  simp [F_rise_at, m_rise_at, startR, vc, rise, hm, hn, a1, a2, show (j : Int) + 1 - 1 = j by omega]
end VW
/-! What faults computes, plainly. -/
namespace VW
open PySem PySem.Spec PyProof.Rows L2
def fl (b e : Int) (k : Str) (p q : Int) : PyData := .tuple [.int b, .int e, .str k, .int p, .int q]
abbrev kLeap : Str := Str.ofString "leap"
abbrev kCross : Str := Str.ofString "cross"
abbrev kHarsh : Str := Str.ofString "harsh"
abbrev kAlong : Str := Str.ofString "along"
def n0 : Nt := (0, 0, 0)
def at' (v : List Nt) (i : Nat) : Nt := v.getD i n0
theorem at_of {v : List Nt} {i : Nat} {n : Nt} (h : v[i]? = some n) : at' v i = n := by unfold at'; rw [List.getD_eq_getElem?_getD, h]; rfl
theorem at_get {v : List Nt} {i : Nat} (h : i < v.length) : v[i]? = some (at' v i) := by unfold at'; rw [List.getD_eq_getElem?_getD, List.getElem?_eq_getElem h]; rfl
def leapB (v : List Nt) (i : Nat) : Bool := tch v i && decide (12 < absI (rise v i))
def leapAt (v : List Nt) (k : Int) (i : Nat) : List PyData := if leapB v i = true then [fl (at' v i).1 (at' v i).1 kLeap k k] else []
def leaps (v : List Nt) (k : Int) : List PyData := (List.range v.length).flatMap (leapAt v k)
theorem tch_pos {v : List Nt} {i : Nat} (h : tch v i = true) : ∃ j, i = j + 1 ∧ j + 1 < v.length := by
  unfold tch at h
  cases hn : v[i]? with
  | none => rw [hn] at h; cases h
  | some n =>
    have hi := (List.getElem?_eq_some_iff.mp hn).1
    cases i with
    | zero => rw [hn] at h; cases h
    | succ j => exact ⟨j, rfl, hi⟩
theorem F_rise' (v : List Nt) {i : Nat} (h : tch v i = true) : F_rise_at [vc v, .int i] = ret (.int (rise v i)) := by
  obtain ⟨j, rfl, hj⟩ := tch_pos h
  exact F_rise v hj
theorem fm_len {α : Type} {f : Nat → List α} {c : Nat} (h : ∀ i, (f i).length ≤ c) : ∀ n, ((List.range n).flatMap f).length ≤ n * c
  | 0 => by simp
  | n + 1 => by
    rw [List.range_succ, List.flatMap_append, List.length_append, Nat.succ_mul]
    have a := fm_len h n
    have b : ((List.flatMap f [n]).length) ≤ c := by simpa using h n
    omega
theorem fm_succ {α : Type} {f : Nat → List α} {n : Nat} : (List.range (n + 1)).flatMap f = (List.range n).flatMap f ++ f n := by
  rw [List.range_succ, List.flatMap_append]
  simp
theorem leapAt_len (v : List Nt) (k : Int) (i : Nat) : (leapAt v k i).length ≤ 1 := by
  unfold leapAt
  split <;> simp
theorem ds_getD {v : List Nt} {i : Nat} {n : Nt} (h : v[i]? = some n) : (v.map nt).getD i .none = nt n := by
  rw [List.getD_eq_getElem?_getD, vc_get h]
  rfl
theorem F_leap (v : List Nt) (k : Int) (hz : v.length ≤ 1000) : F_leap_faults [vc v, .int k] = ret (.list (leaps v k)) := by
  obtain ⟨ρ', e1, x, y, rfl⟩ := for_nx (g := tgT 2 (tgsCons (tgN 3) (tgsCons (tgN 4) tgsNil))) (fa := mEnum (mCons (mV 0) mNil)) (b := lb_leap_faults_1) (ρ := [some (.imm (vc v)), some (.imm (.int k)), some (.own []), none, none])
    (ds := (List.range v.length).map fun i : Nat => PyData.tuple [.int (i : Int), (v.map nt).getD i .none])
    (fun i ρ => ∃ (x y : Option Sl), ρ = [some (.imm (vc v)), some (.imm (.int k)), some (.own ((List.range i).flatMap (leapAt v k))), x, y]) (by simp [vc]) ⟨none, none, rfl⟩ fun i d ρ hd ⟨x, y, hρ⟩ => by
      obtain ⟨hi, rfl⟩ := map_range hd
      subst hρ
      have hn := at_get hi
      have hl := fm_len (leapAt_len v k) i
      refine ⟨_, .inl ?_, some (.imm (.int i)), some (.imm (nt (at' v i))), rfl⟩
      rw [fm_succ]
      generalize (List.range i).flatMap (leapAt v k) = A at hl ⊢
      by_cases ht : tch v i = true
      · by_cases hr : 12 < absI (rise v i)
        · rw [ds_getD hn]
          simp [lb_leap_faults_1, ht, F_rise' v ht, leapAt, leapB, hr, fl, show A.length < 16777216 by omega]
        · rw [ds_getD hn]
          simp [lb_leap_faults_1, ht, F_rise' v ht, leapAt, leapB, hr]
      · rw [ds_getD hn]
        have ht' : tch v i = false := by simpa using ht
        simp [lb_leap_faults_1, ht', leapAt, leapB]
  simp [F_leap_faults, m_leap_faults, startR, e1, leaps]
theorem rise_le {v : List Nt} (h : okV v) (i : Nat) : -400 ≤ rise v i ∧ rise v i ≤ 400 := by
  unfold rise
  cases i with
  | zero => simp
  | succ j =>
    dsimp only
    split
    · rename_i m n h1 h2
      have a := h.1 m (List.mem_of_getElem? h1)
      have b := h.1 n (List.mem_of_getElem? h2)
      unfold okN at a b
      omega
    · omega
def passB (v : List Nt) (i : Nat) : Bool := tch v i && (tch v (i + 1) && ((decide (1 ≤ rise v i) && decide (rise v i ≤ 2)) && (decide (1 ≤ rise v (i + 1)) && decide (rise v (i + 1) ≤ 2)) || (decide (-2 ≤ rise v i) && decide (rise v i ≤ -1)) && (decide (-2 ≤ rise v (i + 1)) && decide (rise v (i + 1) ≤ -1))))
theorem F_riseS (v : List Nt) {i : Nat} (h : tch v (i + 1) = true) : F_rise_at [vc v, .int ((i : Int) + 1)] = ret (.int (rise v (i + 1))) := F_rise' v h
theorem F_pass (v : List Nt) (i : Nat) : F_passes [vc v, .int i] = ret (.bool (passB v i)) := by
  by_cases h1 : tch v i = true
  · by_cases h2 : tch v (i + 1) = true
    · simp [F_passes, m_passes, startR, h1, h2, F_rise' v h1, F_riseS v h2, passB]
    · simp [F_passes, m_passes, startR, h1, h2, passB]
  · simp [F_passes, m_passes, startR, h1, passB]
/-- what two notes that sound together are faulted for -/
def meetAt (u l : List Nt) (i j : Nat) (p q : Int) : List PyData :=
  let x := at' u i
  let y := at' l j
  let b := if y.1 > x.1 then y.1 else x.1
  let e := if y.1 + y.2.1 < x.1 + x.2.1 then y.1 + y.2.1 else x.1 + x.2.1
  if e ≤ b then [] else
    (if x.2.2 - y.2.2 < 0 then [fl b e kCross p q] else []) ++ (if ((x.2.2 - y.2.2) % 12 = 1 ∨ (x.2.2 - y.2.2) % 12 = 2 ∨ (x.2.2 - y.2.2) % 12 = 6 ∨ (x.2.2 - y.2.2) % 12 = 10 ∨ (x.2.2 - y.2.2) % 12 = 11) ∧ passB u i = false ∧ passB l j = false then [fl b e kHarsh p q] else [])
theorem in_harsh (x : Int) : pyIn (.int x) (.tuple [.int 1, .int 2, .int 6, .int 10, .int 11]) = ret (decide (x = 1 ∨ x = 2 ∨ x = 6 ∨ x = 10 ∨ x = 11)) := by
  have h : pyIn (.int x) (.tuple [.int 1, .int 2, .int 6, .int 10, .int 11]) = ret ([PyData.int 1, .int 2, .int 6, .int 10, .int 11].any fun z => PyData.eqv z (.int x)) := by
    unfold pyIn
    exact if_pos ⟨rfl, rfl, Nat.le_trans (Nat.min_le_right _ _) (Nat.zero_le 60)⟩
  rw [h]
  congr 1
  show (decide ((1 : Int) = x) || (decide ((2 : Int) = x) || (decide ((6 : Int) = x) || (decide ((10 : Int) = x) || (decide ((11 : Int) = x) || false))))) = _
  simp [eq_comm]
theorem in_open (x : Int) : pyIn (.int x) (.tuple [.int 0, .int 7]) = ret (decide (x = 0 ∨ x = 7)) := by
  have h : pyIn (.int x) (.tuple [.int 0, .int 7]) = ret ([PyData.int 0, .int 7].any fun z => PyData.eqv z (.int x)) := by
    unfold pyIn
    exact if_pos ⟨rfl, rfl, Nat.le_trans (Nat.min_le_right _ _) (Nat.zero_le 60)⟩
  rw [h]
  congr 1
  show (decide ((0 : Int) = x) || (decide ((7 : Int) = x) || false)) = _
  simp [eq_comm]
theorem F_meet (u l : List Nt) {i j : Nat} (hi : i < u.length) (hj : j < l.length) (p q : Int) : F_meeting_faults [vc u, vc l, .int i, .int j, .tuple [.int p, .int q]] = ret (.list (meetAt u l i j p q)) := by
  have a1 : pyIx (vc u) (.int i) = ret (nt (at' u i)) := w_ixl (vc_get (at_get hi))
  have a2 : pyIx (vc l) (.int j) = ret (nt (at' l j)) := w_ixl (vc_get (at_get hj))
  unfold meetAt
  generalize at' u i = x at a1 ⊢
  generalize at' l j = y at a2 ⊢
  dsimp only
  generalize hb : (if y.1 > x.1 then y.1 else x.1) = b
  generalize he : (if y.1 + y.2.1 < x.1 + x.2.1 then y.1 + y.2.1 else x.1 + x.2.1) = e
  have hp1 := F_pass u i
  have hp2 := F_pass l j
  by_cases hbe : e ≤ b
  · simp [F_meeting_faults, m_meeting_faults, startR, a1, a2, hb, he, hbe]
  · by_cases c1 : x.2.2 - y.2.2 < 0 <;> by_cases c2 : ((x.2.2 - y.2.2) % 12 = 1 ∨ (x.2.2 - y.2.2) % 12 = 2 ∨ (x.2.2 - y.2.2) % 12 = 6 ∨ (x.2.2 - y.2.2) % 12 = 10 ∨ (x.2.2 - y.2.2) % 12 = 11) ∧ passB u i = false ∧ passB l j = false <;> simp [F_meeting_faults, m_meeting_faults, startR, a1, a2, hb, he, hbe, c1, c2, hp1, hp2, w_modi, in_harsh, fl]
end VW
namespace VW
open PySem PySem.Spec PyProof.Rows L2
def alongB (u l : List Nt) (i j : Nat) : Bool :=
  decide ((at' u i).1 = (at' l j).1) && (tch u i && (tch l j && (decide (0 < rise u i * rise l j) &&
    (decide (((at' u (i - 1)).2.2 - (at' l (j - 1)).2.2) % 12 = ((at' u i).2.2 - (at' l j).2.2) % 12) && (decide (((at' u (i - 1)).2.2 - (at' l (j - 1)).2.2) % 12 = 0) || decide (((at' u (i - 1)).2.2 - (at' l (j - 1)).2.2) % 12 = 7))))))
theorem F_along {u l : List Nt} (hu : okV u) (hl : okV l) {i j : Nat} (hi : i < u.length) (hj : j < l.length) : F_go_along [vc u, vc l, .int i, .int j] = ret (.bool (alongB u l i j)) := by
  have a1 : pyIx (vc u) (.int i) = ret (nt (at' u i)) := w_ixl (vc_get (at_get hi))
  have a2 : pyIx (vc l) (.int j) = ret (nt (at' l j)) := w_ixl (vc_get (at_get hj))
  by_cases h1 : (at' u i).1 = (at' l j).1
  · by_cases h2 : tch u i = true
    · by_cases h3 : tch l j = true
      · obtain ⟨r1, r2⟩ := rise_le hu i
        obtain ⟨r3, r4⟩ := rise_le hl j
        have hm : pyMul (.int (rise u i)) (.int (rise l j)) = ret (.int (rise u i * rise l j)) := w_muli (.inl ⟨by omega, by omega⟩)
        obtain ⟨i', ei, hi'⟩ := tch_pos h2
        obtain ⟨j', ej, hj'⟩ := tch_pos h3
        have a3 : pyIx (vc u) (.int ((i : Int) - 1)) = ret (nt (at' u (i - 1))) := by
          rw [show (i : Int) - 1 = ((i - 1 : Nat) : Int) by omega]
          exact w_ixl (vc_get (at_get (by omega)))
        have a4 : pyIx (vc l) (.int ((j : Int) - 1)) = ret (nt (at' l (j - 1))) := by
          rw [show (j : Int) - 1 = ((j - 1 : Nat) : Int) by omega]
          exact w_ixl (vc_get (at_get (by omega)))
        have e1 := F_rise' u h2
        have e2 := F_rise' l h3
        unfold alongB
        rw [h2, h3]
        generalize hmm : rise u i * rise l j = m at hm ⊢
        by_cases h4 : m ≤ 0
        · simp [F_go_along, m_go_along, startR, a1, a2, h1, h2, h3, hm, e1, e2, h4, show ¬ 0 < m by omega]
        · simp [F_go_along, m_go_along, startR, a1, a2, a3, a4, h1, h2, h3, hm, e1, e2, h4, show 0 < m by omega, w_modi, in_open]
      · have h3' : tch l j = false := by simpa using h3
        simp [F_go_along, m_go_along, startR, a1, a2, h1, h2, h3', alongB]
    · have h2' : tch u i = false := by simpa using h2
      simp [F_go_along, m_go_along, startR, a1, a2, h1, h2', alongB]
  · simp [F_go_along, m_go_along, startR, a1, a2, h1, alongB]
def pairAt (u l : List Nt) (p q : Int) (i j : Nat) : List PyData := meetAt u l i j p q ++ (if alongB u l i j = true then [fl (at' u i).1 (at' u i).1 kAlong p q] else [])
def pairs (u l : List Nt) (p q : Int) : List PyData := (List.range u.length).flatMap fun i => (List.range l.length).flatMap (pairAt u l p q i)
theorem len3 {α : Type} {c c1 c2 : Prop} [Decidable c] [Decidable c1] [Decidable c2] {x y : α} : (if c then [] else (if c1 then [x] else []) ++ (if c2 then [y] else [])).length ≤ 2 := by
  by_cases h : c <;> by_cases h1 : c1 <;> by_cases h2 : c2 <;> simp [h, h1, h2]
theorem meetAt_len (u l : List Nt) (i j : Nat) (p q : Int) : (meetAt u l i j p q).length ≤ 2 := len3
theorem pairAt_len (u l : List Nt) (p q : Int) (i j : Nat) : (pairAt u l p q i j).length ≤ 3 := by
  unfold pairAt
  rw [List.length_append]
  have := meetAt_len u l i j p q
  split <;> simp <;> omega
theorem pair_step {u l : List Nt} (hu : okV u) (hl : okV l) {i j : Nat} (hi : i < u.length) (hj : j < l.length) (p q : Int) (A B : List PyData) (n : A.length + B.length < 16000000) (w : Option Sl) :
    bnd (tgN 6 (.int (j : Int)) [some (.imm (vc u)), some (.imm (vc l)), some (.imm (.tuple [.int p, .int q])), some (.own (A ++ B)), some (.imm (.int i)), some (.imm (nt (at' u i))), w]) lb_pair_faults_2 =
      ret (.nx [some (.imm (vc u)), some (.imm (vc l)), some (.imm (.tuple [.int p, .int q])), some (.own (A ++ (B ++ pairAt u l p q i j))), some (.imm (.int i)), some (.imm (nt (at' u i))), some (.imm (.int j))]) := by
  have hM := meetAt_len u l i j p q
  have hf := F_meet u l hi hj p q
  unfold pairAt
  generalize meetAt u l i j p q = M at hM hf ⊢
  have ha := F_along hu hl hi hj
  have n1 : A.length + B.length + M.length ≤ 16777216 := by omega
  have n2 : A.length + (B.length + M.length) < 16777216 := by omega
  cases hb : alongB u l i j <;> simp [lb_pair_faults_2, hf, ha, hb, n1, n2, fl]
theorem pair_inner {u l : List Nt} (hu : okV u) (hl : okV l) (zl : l.length ≤ 1000) {i : Nat} (hi : i < u.length) (p q : Int) (A : List PyData) (n : A.length < 15000000) (z : Option Sl) :
    ∃ w, sFor (tgN 6) (mRng1 (mCons (mCall pyLen (mCons (mV 1) mNil)) mNil)) lb_pair_faults_2 [some (.imm (vc u)), some (.imm (vc l)), some (.imm (.tuple [.int p, .int q])), some (.own A), some (.imm (.int i)), some (.imm (nt (at' u i))), z] =
      ret (.nx [some (.imm (vc u)), some (.imm (vc l)), some (.imm (.tuple [.int p, .int q])), some (.own (A ++ (List.range l.length).flatMap (pairAt u l p q i))), some (.imm (.int i)), some (.imm (nt (at' u i))), w]) := by
  have hf : mRng1 (mCons (mCall pyLen (mCons (mV 1) mNil)) mNil) [some (.imm (vc u)), some (.imm (vc l)), some (.imm (.tuple [.int p, .int q])), some (.own A), some (.imm (.int i)), some (.imm (nt (at' u i))), z] = ret ((List.range l.length).map fun i : Nat => PyData.int (i : Int)) := by
    exact rng1_of (n := l.length) (by simp [vc]) (by omega)
  obtain ⟨ρ', e1, w, rfl⟩ := for_nx (b := lb_pair_faults_2) (g := tgN 6) (fun j ρ => ∃ (w : Option Sl), ρ = [some (.imm (vc u)), some (.imm (vc l)), some (.imm (.tuple [.int p, .int q])), some (.own (A ++ (List.range j).flatMap (pairAt u l p q i))), some (.imm (.int i)), some (.imm (nt (at' u i))), w]) hf ⟨z, by simp⟩ fun j d ρ hd ⟨w, hρ⟩ => by
    obtain ⟨hj, rfl⟩ := map_range hd
    subst hρ
    refine ⟨_, .inl ?_, some (.imm (.int j)), rfl⟩
    have hB := fm_len (pairAt_len u l p q i) j
    rw [fm_succ]
    exact pair_step hu hl hi hj p q A _ (by omega) w
  rw [List.length_map, List.length_range] at e1
  exact ⟨w, e1⟩
theorem pair_outer {a b c d x y z : Option Sl} {i : Nat} {n : Nt} (r : M Out) (e : sFor (tgN 6) (mRng1 (mCons (mCall pyLen (mCons (mV 1) mNil)) mNil)) lb_pair_faults_2 [a, b, c, d, some (.imm (.int i)), some (.imm (nt n)), z] = r) : bnd (tgT 2 (tgsCons (tgN 4) (tgsCons (tgN 5) tgsNil)) (.tuple [.int (i : Int), nt n]) [a, b, c, d, x, y, z]) lb_pair_faults_1 = r := e
theorem F_pair {u l : List Nt} (hu : okV u) (hl : okV l) (zu : u.length ≤ 1000) (zl : l.length ≤ 1000) (p q : Int) : F_pair_faults [vc u, vc l, .tuple [.int p, .int q]] = ret (.list (pairs u l p q)) := by
  obtain ⟨ρ', e1, x, y, z, rfl⟩ := for_nx (g := tgT 2 (tgsCons (tgN 4) (tgsCons (tgN 5) tgsNil))) (fa := mEnum (mCons (mV 0) mNil)) (b := lb_pair_faults_1) (ρ := [some (.imm (vc u)), some (.imm (vc l)), some (.imm (.tuple [.int p, .int q])), some (.own []), none, none, none])
    (ds := (List.range u.length).map fun i : Nat => PyData.tuple [.int (i : Int), (u.map nt).getD i .none])
    (fun i ρ => ∃ (x y z : Option Sl), ρ = [some (.imm (vc u)), some (.imm (vc l)), some (.imm (.tuple [.int p, .int q])), some (.own ((List.range i).flatMap fun i => (List.range l.length).flatMap (pairAt u l p q i))), x, y, z]) (by simp [vc]) ⟨none, none, none, rfl⟩ fun i d ρ hd ⟨x, y, z, hρ⟩ => by
      obtain ⟨hi, rfl⟩ := map_range hd
      subst hρ
      have hn := at_get hi
      have hA := fm_len (f := fun i => (List.range l.length).flatMap (pairAt u l p q i)) (c := 3000) (fun i => Nat.le_trans (fm_len (pairAt_len u l p q i) l.length) (by omega)) i
      rw [fm_succ, ds_getD hn]
      generalize (List.range i).flatMap (fun i => (List.range l.length).flatMap (pairAt u l p q i)) = A at hA ⊢
      obtain ⟨w, e1⟩ := pair_inner hu hl zl hi p q A (by omega) z
      refine ⟨_, .inl (pair_outer _ e1), some (.imm (.int i)), some (.imm (nt (at' u i))), w, rfl⟩
  simp [F_pair_faults, m_pair_faults, startR, e1, pairs]
def allAt (p : List (List Nt)) (i : Nat) : List PyData := leaps (p.getD i []) i ++ (List.range (p.length - (i + 1))).flatMap fun k => pairs (p.getD i []) (p.getD (i + 1 + k) []) i ((i + 1 + k : Nat) : Int)
def allF (p : List (List Nt)) : List PyData := (List.range p.length).flatMap (allAt p)
end VW
namespace VW
open PySem PySem.Spec PyProof.Rows L2
theorem fl_shp (b e : Int) (k : Str) (p q : Int) : okShp [true, false, true, true] (fl b e k p q) := ⟨rfl, rfl⟩
theorem leapAt_shp {v : List Nt} {k : Int} {i : Nat} {x : PyData} (h : x ∈ leapAt v k i) : okShp [true, false, true, true] x := by
  unfold leapAt at h
  split at h
  · rw [List.mem_singleton] at h
    rw [h]
    exact fl_shp _ _ _ _ _
  · cases h
theorem leaps_shp {v : List Nt} {k : Int} {x : PyData} (h : x ∈ leaps v k) : okShp [true, false, true, true] x := by
  unfold leaps at h
  rw [List.mem_flatMap] at h
  obtain ⟨i, _, hx⟩ := h
  exact leapAt_shp hx
theorem sorted_of {ds : List PyData} {sh : List Bool} (h : ∀ x ∈ ds, okShp sh x) : pySorted [.list ds] = ret (sortD ds) := by
  obtain ⟨s, e⟩ := sortOk_of h
  unfold pySorted
  simp only [w_lst1, e]
theorem F_faults1 {v : List Nt} (h : okV v) (hz : v.length ≤ 1000) : F_faults [.list [vc v]] = ret (sortD (leaps v 0)) := by
  have hn : F_need_piece [.list [vc v]] = ret .none := F_need (p := [v]) ⟨Nat.le_refl 1, (by simp : [v].length ≤ 6), fun w hw => by rw [List.mem_singleton.mp hw]; exact h⟩
  have hl := F_leap v 0 hz
  have hb : lb_faults_1 [some (.imm (.list [vc v])), some (.imm (.list [])), some (.imm (.int 0)), some (.imm (vc v)), none] = ret (.nx [some (.imm (.list [vc v])), some (.imm (.list (leaps v 0))), some (.imm (.int 0)), some (.imm (vc v)), none]) := by
    unfold lb_faults_1
    have hle := Nat.le_trans (fm_len (leapAt_len v 0) v.length) (by omega : v.length * 1 ≤ 16777216)
    refine seq_eq (ρ' := [some (.imm (.list [vc v])), some (.imm (.list (leaps v 0))), some (.imm (.int 0)), some (.imm (vc v)), none]) ?_ ?_
    · have hle' : (leaps v 0).length ≤ 16777216 := hle
      have hl' : F_leap_faults [vc v, .int 0] = ret (.list (leaps v 0)) := hl
      generalize leaps v 0 = A at hle' hl' ⊢
      simp [hl', hle']
    · have hr : mRng2 (mCons (m2 pyAdd (mV 2) (mC (.int 1))) (mCons (mCall pyLen (mCons (mV 0) mNil)) mNil)) [some (.imm (.list [vc v])), some (.imm (.list (leaps v 0))), some (.imm (.int 0)), some (.imm (vc v)), none] = ret [] := rng2_of (i := 0 + 1) (j := ((1 : Nat) : Int)) rfl (by decide)
      rw [w_sFor, hr]
      rfl
  have hs := sorted_of (fun x hx => leaps_shp (v := v) (k := 0) hx)
  have e1 : sFor (tgT 2 (tgsCons (tgN 2) (tgsCons (tgN 3) tgsNil))) (mEnum (mCons (mV 0) mNil)) lb_faults_1 [some (.imm (.list [vc v])), some (.imm (.list [])), none, none, none] = ret (.nx [some (.imm (.list [vc v])), some (.imm (.list (leaps v 0))), some (.imm (.int 0)), some (.imm (vc v)), none]) := by
    unfold sFor
    have he : mEnum (mCons (mV 0) mNil) [some (.imm (.list [vc v])), some (.imm (.list [])), none, none, none] = ret [.tuple [.int 0, vc v]] := rfl
    rw [he, bnd_ret, w_loop1]
    simp [hb]
  simp [F_faults, m_faults, startR, hn, e1, hs]
end VW
namespace VW
open PySem PySem.Spec PyProof.Rows L2
def vAt (p : List (List Nt)) (i : Nat) : List Nt := p.getD i []
theorem v_get {p : List (List Nt)} {i : Nat} (h : i < p.length) : p[i]? = some (vAt p i) := by unfold vAt; rw [List.getD_eq_getElem?_getD, List.getElem?_eq_getElem h]; rfl
theorem v_mem {p : List (List Nt)} {i : Nat} (h : i < p.length) : vAt p i ∈ p := List.mem_of_getElem? (v_get h)
theorem v_ix {p : List (List Nt)} {i : Nat} (h : i < p.length) : pyIx (pc p) (.int i) = ret (vc (vAt p i)) := w_ixl (by rw [List.getElem?_map, v_get h]; rfl)
def pairsAt (p : List (List Nt)) (i k : Nat) : List PyData := pairs (vAt p i) (vAt p (i + 1 + k)) i ((i : Int) + 1 + k)
theorem pairs_len {u l : List Nt} (hu : u.length ≤ 100) (hl : l.length ≤ 100) (p q : Int) : (pairs u l p q).length ≤ 30000 := by
  have h := fm_len (f := fun i => (List.range l.length).flatMap (pairAt u l p q i)) (c := 300) (fun i => Nat.le_trans (fm_len (pairAt_len u l p q i) l.length) (by omega)) u.length
  unfold pairs
  omega
theorem faults_in_step {p : List (List Nt)} (hv : ∀ v ∈ p, okV v) (hz : ∀ v ∈ p, v.length ≤ 100) {i k : Nat} (hi : i < p.length) (hk : i + 1 + k < p.length) (A : List PyData) (hA : A.length ≤ 16000000) (z : Option Sl) :
    bnd (tgN 4 (.int ((i : Int) + 1 + k)) [some (.imm (pc p)), some (.imm (.list A)), some (.imm (.int i)), some (.imm (vc (vAt p i))), z]) lb_faults_2 = ret (.nx [some (.imm (pc p)), some (.imm (.list (A ++ pairsAt p i k))), some (.imm (.int i)), some (.imm (vc (vAt p i))), some (.imm (.int ((i : Int) + 1 + k)))]) := by
  have a : pyIx (pc p) (.int ((i : Int) + 1 + k)) = ret (vc (vAt p (i + 1 + k))) := by
    rw [show (i : Int) + 1 + k = ((i + 1 + k : Nat) : Int) by omega]
    exact v_ix hk
  have m1 := v_mem hi
  have m2 := v_mem hk
  have f := F_pair (hv _ m1) (hv _ m2) (Nat.le_trans (hz _ m1) (by omega)) (Nat.le_trans (hz _ m2) (by omega)) i ((i : Int) + 1 + k)
  have hl := pairs_len (hz _ m1) (hz _ m2) i ((i : Int) + 1 + k)
  unfold pairsAt
  generalize pairs (vAt p i) (vAt p (i + 1 + k)) i ((i : Int) + 1 + k) = B at f hl ⊢
  have n1 : A.length + B.length ≤ 16777216 := by omega
  simp [lb_faults_2, a, f, n1]
theorem faults_in {p : List (List Nt)} (hp : p.length ≤ 6) (hv : ∀ v ∈ p, okV v) (hz : ∀ v ∈ p, v.length ≤ 100) {i : Nat} (hi : i < p.length) (A : List PyData) (hA : A.length ≤ 15000000) (z : Option Sl) :
    ∃ w, sFor (tgN 4) (mRng2 (mCons (m2 pyAdd (mV 2) (mC (.int 1))) (mCons (mCall pyLen (mCons (mV 0) mNil)) mNil))) lb_faults_2 [some (.imm (pc p)), some (.imm (.list A)), some (.imm (.int i)), some (.imm (vc (vAt p i))), z] =
      ret (.nx [some (.imm (pc p)), some (.imm (.list (A ++ (List.range (p.length - (i + 1))).flatMap (pairsAt p i)))), some (.imm (.int i)), some (.imm (vc (vAt p i))), w]) := by
  have hr := rng2_of (fa := mCons (m2 pyAdd (mV 2) (mC (.int 1))) (mCons (mCall pyLen (mCons (mV 0) mNil)) mNil)) (ρ := [some (.imm (pc p)), some (.imm (.list A)), some (.imm (.int i)), some (.imm (vc (vAt p i))), z]) (i := (i : Int) + 1) (j := (p.length : Int)) (by simp [pc]) ⟨by omega, by omega, by omega, by omega⟩
  have hc : ∀ k, i + 1 + k < p.length → (pairsAt p i k).length ≤ 30000 := fun k hk => pairs_len (hz _ (v_mem hi)) (hz _ (v_mem hk)) _ _
  obtain ⟨ρ', e1, w, rfl, -⟩ := for_nx (b := lb_faults_2) (g := tgN 4) (fun k ρ => ∃ (w : Option Sl), ρ = [some (.imm (pc p)), some (.imm (.list (A ++ (List.range k).flatMap (pairsAt p i)))), some (.imm (.int i)), some (.imm (vc (vAt p i))), w] ∧ ((List.range k).flatMap (pairsAt p i)).length ≤ k * 30000) hr ⟨z, by simp, Nat.zero_le _⟩ fun k d ρ hd ⟨w, hρ, hB⟩ => by
    obtain ⟨hk, rfl⟩ := map_range hd
    subst hρ
    have hk' : i + 1 + k < p.length := by omega
    have h1 := hc k hk'
    refine ⟨_, .inl (faults_in_step hv hz hi hk' _ ?_ w), some (.imm (.int ((i : Int) + 1 + k))), ?_, ?_⟩
    · rw [List.length_append]
      omega
    · rw [fm_succ, List.append_assoc]
    · rw [fm_succ, List.length_append]
      omega
  rw [List.length_map, List.length_range, show ((p.length : Int) - ((i : Int) + 1)).toNat = p.length - (i + 1) by omega] at e1
  exact ⟨w, e1⟩
def allAt' (p : List (List Nt)) (i : Nat) : List PyData := leaps (vAt p i) i ++ (List.range (p.length - (i + 1))).flatMap (pairsAt p i)
def allF' (p : List (List Nt)) : List PyData := (List.range p.length).flatMap (allAt' p)
theorem meetAt_mem {u l : List Nt} {i j : Nat} {p q : Int} {x : PyData} (h : x ∈ meetAt u l i j p q) : ∃ b e k, x = fl b e k p q := by
  unfold meetAt at h
  dsimp only at h
  generalize (if (at' l j).1 > (at' u i).1 then (at' l j).1 else (at' u i).1) = b at h
  generalize (if (at' l j).1 + (at' l j).2.1 < (at' u i).1 + (at' u i).2.1 then (at' l j).1 + (at' l j).2.1 else (at' u i).1 + (at' u i).2.1) = e at h
  by_cases c : e ≤ b
  · rw [if_pos c] at h
    cases h
  · rw [if_neg c] at h
    rcases List.mem_append.mp h with h | h
    · split at h
      · exact ⟨_, _, _, List.mem_singleton.mp h⟩
      · cases h
    · split at h
      · exact ⟨_, _, _, List.mem_singleton.mp h⟩
      · cases h
theorem pairs_mem {u l : List Nt} {p q : Int} {x : PyData} (h : x ∈ pairs u l p q) : ∃ b e k, x = fl b e k p q := by
  unfold pairs at h
  obtain ⟨i, _, h⟩ := List.mem_flatMap.mp h
  obtain ⟨j, _, h⟩ := List.mem_flatMap.mp h
  rcases List.mem_append.mp h with h | h
  · exact meetAt_mem h
  · split at h
    · exact ⟨_, _, _, List.mem_singleton.mp h⟩
    · cases h
theorem leaps_mem {v : List Nt} {k : Int} {x : PyData} (h : x ∈ leaps v k) : ∃ b e z, x = fl b e z k k := by
  unfold leaps at h
  obtain ⟨i, _, h⟩ := List.mem_flatMap.mp h
  unfold leapAt at h
  split at h
  · exact ⟨_, _, _, List.mem_singleton.mp h⟩
  · cases h
theorem allF_mem {p : List (List Nt)} {x : PyData} (h : x ∈ allF' p) : ∃ b e z k q, x = fl b e z k q := by
  unfold allF' at h
  obtain ⟨i, _, h⟩ := List.mem_flatMap.mp h
  rcases List.mem_append.mp h with h | h
  · obtain ⟨b, e, z, rfl⟩ := leaps_mem h
    exact ⟨_, _, _, _, _, rfl⟩
  · obtain ⟨k, _, h⟩ := List.mem_flatMap.mp h
    obtain ⟨b, e, z, rfl⟩ := pairs_mem h
    exact ⟨_, _, _, _, _, rfl⟩
theorem allF_shp {p : List (List Nt)} {x : PyData} (h : x ∈ allF' p) : okShp [true, false, true, true] x := by
  obtain ⟨b, e, z, k, q, rfl⟩ := allF_mem h
  exact fl_shp _ _ _ _ _
theorem leaps_len {v : List Nt} (h : v.length ≤ 100) (k : Int) : (leaps v k).length ≤ 100 := by
  have := fm_len (leapAt_len v k) v.length
  unfold leaps
  omega
theorem faults_out {p : List (List Nt)} (hp : p.length ≤ 6) (hv : ∀ v ∈ p, okV v) (hz : ∀ v ∈ p, v.length ≤ 100) {i : Nat} (hi : i < p.length) (A : List PyData) (hA : A.length ≤ 14000000) (x y z : Option Sl) :
    ∃ w, bnd (tgT 2 (tgsCons (tgN 2) (tgsCons (tgN 3) tgsNil)) (.tuple [.int (i : Int), vc (vAt p i)]) [some (.imm (pc p)), some (.imm (.list A)), x, y, z]) lb_faults_1 = ret (.nx [some (.imm (pc p)), some (.imm (.list (A ++ allAt' p i))), some (.imm (.int i)), some (.imm (vc (vAt p i))), w]) := by
  have f := F_leap (vAt p i) i (Nat.le_trans (hz _ (v_mem hi)) (by omega))
  have hl := leaps_len (hz _ (v_mem hi)) i
  unfold allAt'
  generalize leaps (vAt p i) i = B at f hl ⊢
  obtain ⟨w, hw⟩ := faults_in hp hv hz hi (A ++ B) (by rw [List.length_append]; omega) z
  refine ⟨w, ?_⟩
  show lb_faults_1 [some (.imm (pc p)), some (.imm (.list A)), some (.imm (.int i)), some (.imm (vc (vAt p i))), z] = _
  unfold lb_faults_1
  refine seq_eq (ρ' := [some (.imm (pc p)), some (.imm (.list (A ++ B))), some (.imm (.int i)), some (.imm (vc (vAt p i))), z]) ?_ ?_
  · have n1 : A.length + B.length ≤ 16777216 := by omega
    simp [f, n1]
  · rw [hw, List.append_assoc]
theorem F_faults_all {p : List (List Nt)} (h : okP p) (hz : ∀ v ∈ p, v.length ≤ 100) : F_faults [pc p] = ret (sortD (allF' p)) := by
  have hn := F_need h
  obtain ⟨h1, h2, h3⟩ := h
  have hs := sorted_of (fun x hx => allF_shp (p := p) hx)
  obtain ⟨ρ', e1, x, y, z, rfl, -⟩ := for_nx (g := tgT 2 (tgsCons (tgN 2) (tgsCons (tgN 3) tgsNil))) (fa := mEnum (mCons (mV 0) mNil)) (b := lb_faults_1) (ρ := [some (.imm (pc p)), some (.imm (.list [])), none, none, none])
    (ds := (List.range p.length).map fun i : Nat => PyData.tuple [.int (i : Int), (p.map vc).getD i .none])
    (fun i ρ => ∃ (x y z : Option Sl), ρ = [some (.imm (pc p)), some (.imm (.list ((List.range i).flatMap (allAt' p)))), x, y, z] ∧ ((List.range i).flatMap (allAt' p)).length ≤ i * 200000) (by simp [pc]) ⟨none, none, none, rfl, Nat.zero_le _⟩ fun i d ρ hd ⟨x, y, z, hρ, hA⟩ => by
      obtain ⟨hi, rfl⟩ := map_range hd
      subst hρ
      have hg : (p.map vc).getD i .none = vc (vAt p i) := by
        rw [List.getD_eq_getElem?_getD, List.getElem?_map, v_get hi]
        rfl
      rw [hg]
      obtain ⟨w, hw⟩ := faults_out h2 h3 hz hi _ (by omega : ((List.range i).flatMap (allAt' p)).length ≤ 14000000) x y z
      refine ⟨_, .inl hw, some (.imm (.int i)), some (.imm (vc (vAt p i))), w, by rw [fm_succ], ?_⟩
      have l1 := leaps_len (hz _ (v_mem hi)) i
      have l2 : ∀ k, k ≤ p.length - (i + 1) → ((List.range k).flatMap (pairsAt p i)).length ≤ k * 30000 := fun k => by
        induction k with
        | zero => intro _; exact Nat.zero_le _
        | succ k ih =>
          intro hk
          have a := ih (by omega)
          have b : (pairsAt p i k).length ≤ 30000 := pairs_len (hz _ (v_mem hi)) (hz _ (v_mem (by omega))) _ _
          rw [fm_succ, List.length_append]
          omega
      have l3 := l2 _ (Nat.le_refl _)
      rw [fm_succ, List.length_append]
      have l4 : (allAt' p i).length = (leaps (vAt p i) i).length + ((List.range (p.length - (i + 1))).flatMap (pairsAt p i)).length := List.length_append
      omega
  rw [List.length_map, List.length_range] at e1
  have e2 : (List.range p.length).flatMap (allAt' p) = allF' p := rfl
  rw [e2] at e1
  simp [F_faults, m_faults, startR, hn, e1, hs]
end VW
/-! Tools for the laws' mathematics. -/
namespace VW
open PySem PySem.Spec PyProof.Rows L2
def m__law_at : Rho → M Out := (sSeq (sIf (m2B pyLt (mV 1) (mCall pyLen (mCons (mV 0) mNil))) (sRet (m2 pyIx (mV 0) (mV 1))) sNx) (sRet (mC (.int 0))))
def F__law_at : List PyData → M PyData := fnD 2 m__law_at
/-! ### data that equals itself -/
theorem dep_list {xs : List PyData} {c : Nat} (h : ∀ x ∈ xs, x.depth ≤ c) : PyData.depthAll xs ≤ c := by
  induction xs with
  | nil => exact Nat.zero_le _
  | cons x r ih =>
    unfold PyData.depthAll
    exact Nat.max_le.mpr ⟨h x List.mem_cons_self, ih fun y hy => h y (List.mem_cons_of_mem _ hy)⟩
theorem pl_list {xs : List PyData} (h : ∀ x ∈ xs, x.plain = true) : PyData.plainAll xs = true := by
  induction xs with
  | nil => rfl
  | cons x r ih =>
    unfold PyData.plainAll
    rw [h x List.mem_cons_self, ih fun y hy => h y (List.mem_cons_of_mem _ hy)]
    rfl
/-- plain, and not deep -/
def Pd (c : Nat) (d : PyData) : Prop := d.plain = true ∧ d.depth ≤ c
theorem Pd.list {xs : List PyData} {c : Nat} (h : ∀ x ∈ xs, Pd c x) : Pd (c + 1) (.list xs) := ⟨pl_list fun x hx => (h x hx).1, Nat.succ_le_succ (dep_list fun x hx => (h x hx).2)⟩
theorem Pd.tuple {xs : List PyData} {c : Nat} (h : ∀ x ∈ xs, Pd c x) : Pd (c + 1) (.tuple xs) := ⟨pl_list fun x hx => (h x hx).1, Nat.succ_le_succ (dep_list fun x hx => (h x hx).2)⟩
theorem Pd.int (i : Int) : Pd 0 (.int i) := ⟨rfl, Nat.le_refl 0⟩
theorem Pd.str (z : Str) : Pd 0 (.str z) := ⟨rfl, Nat.le_refl 0⟩
theorem Pd.nt (n : Nt) : Pd 1 (nt n) := Pd.tuple fun x hx => by
  simp only [List.mem_cons, List.not_mem_nil, or_false] at hx
  rcases hx with rfl | rfl | rfl <;> exact Pd.int _
theorem Pd.fl (b e : Int) (k : Str) (p q : Int) : Pd 1 (fl b e k p q) := Pd.tuple fun x hx => by
  simp only [List.mem_cons, List.not_mem_nil, or_false] at hx
  rcases hx with rfl | rfl | rfl | rfl | rfl <;> first | exact Pd.int _ | exact Pd.str _
theorem Pd.vc (v : List Nt) : Pd 2 (vc v) := Pd.list fun x hx => by
  obtain ⟨n, _, rfl⟩ := List.mem_map.mp hx
  exact Pd.nt n
theorem eq_self {d : PyData} {c : Nat} (h : Pd c d) (hc : c ≤ 64) : pyEq d d = ret true := by
  unfold pyEq
  rw [if_pos ⟨h.1, h.1, Nat.le_trans (Nat.min_le_left _ _) (Nat.le_trans h.2 hc)⟩, PySem.SeqAt.eqv_refl_plain d h.1]
theorem ne_self {d : PyData} {c : Nat} (h : Pd c d) (hc : c ≤ 64) : pyNe d d = ret false := by
  unfold pyNe
  rw [if_pos ⟨h.1, h.1, Nat.le_trans (Nat.min_le_left _ _) (Nat.le_trans h.2 hc)⟩, PySem.SeqAt.eqv_refl_plain d h.1]
  rfl
/-! ### the script -/
def sc (ns : List Int) : PyData := .dict [(.none, .list (ns.map .int))]
theorem F_at (ns : List Int) (k : Nat) : F__law_at [sc ns, .int k] = ret (.int (ns.getD k 0)) := by
  by_cases h : k < ns.length
  · have a : pyIx (sc ns) (.int k) = ret (.int ns[k]) := by
      show ofO (atI (ns.map PyData.int) (k : Int)) _ = _
      rw [atI_nat (v := PyData.int ns[k]) (by rw [List.getElem?_map, List.getElem?_eq_getElem h]; rfl)]
      rfl
    have b : ns.getD k 0 = ns[k] := by rw [List.getD_eq_getElem?_getD, List.getElem?_eq_getElem h]; rfl
    rw [b]
    have c : pyLen [sc ns] = ret (.int ns.length) := by simp [sc]
    simp [F__law_at, m__law_at, startR, a, c, h]
  · have b : ns.getD k 0 = 0 := by rw [List.getD_eq_getElem?_getD, List.getElem?_eq_none (by omega)]; rfl
    have c : pyLen [sc ns] = ret (.int ns.length) := by simp [sc]
    rw [b]
    simp [F__law_at, m__law_at, startR, c, h]
theorem cut_map {α β : Type} (f : α → β) (xs : List α) (lo hi : Option Int) : cutD (xs.map f) lo hi = (cutD xs lo hi).map f := by
  unfold cutD
  rw [List.length_map, List.map_take, List.map_drop]
theorem okV_snoc {w : List Nt} {n : Nt} (h : okV w) (hn : okN n) (he : ∀ m, w.getLast? = some m → m.1 + m.2.1 ≤ n.1) : okV (w ++ [n]) := by
  refine ⟨fun x hx => ?_, fun i a b ha hb => ?_⟩
  · rcases List.mem_append.mp hx with hx | hx
    · exact h.1 x hx
    · rw [List.mem_singleton.mp hx]
      exact hn
  · by_cases hi : i + 1 < w.length
    · rw [List.getElem?_append_left (by omega)] at ha hb
      exact h.2 i a b ha hb
    · have hl : i + 1 < (w ++ [n]).length := (List.getElem?_eq_some_iff.mp hb).1
      rw [List.length_append, List.length_singleton] at hl
      have ei : i + 1 = w.length := by omega
      rw [ei, List.getElem?_append_right (Nat.le_refl _), Nat.sub_self] at hb
      have eb : n = b := Option.some.inj hb
      rw [List.getElem?_append_left (by omega)] at ha
      subst eb
      refine he a ?_
      rw [List.getLast?_eq_getElem?, ← ei]
      exact ha
theorem okV_mono {v : List Nt} (h : okV v) (i : Nat) : ∀ k, i + k < v.length → (at' v i).1 ≤ (at' v (i + k)).1
  | 0, _ => Int.le_refl _
  | k + 1, hk => by
    have a := okV_mono h i k (by omega)
    have b := h.2 (i + k) _ _ (at_get (by omega)) (at_get (by omega : i + k + 1 < v.length))
    have c := (h.1 _ (List.mem_of_getElem? (at_get (by omega : i + k < v.length)))).2.1
    show _ ≤ (at' v (i + k + 1)).1
    omega
theorem okV_sep {v : List Nt} (h : okV v) {i j : Nat} (hij : i < j) (hj : j < v.length) : (at' v i).1 + (at' v i).2.1 ≤ (at' v j).1 := by
  have a := h.2 i _ _ (at_get (by omega)) (at_get (by omega : i + 1 < v.length))
  have b := okV_mono h (i + 1) (j - (i + 1)) (by omega)
  rw [show i + 1 + (j - (i + 1)) = j by omega] at b
  omega
/-! ### comprehensions -/
theorem lcM_fm {g : PyData → Rho → M Rho} {t : Rho → M Bool} {f : Rho → M PyData} (P : PyData → Bool) (h : PyData → PyData) : ∀ (ds : List PyData) (ρ : Rho), (∀ d ∈ ds, ∃ ρ1, g d ρ = ret ρ1 ∧ t ρ1 = ret (P d) ∧ (P d = true → f ρ1 = ret (h d))) → lcM g t f ds ρ = ret ((ds.filter P).map h)
  | [], ρ, _ => rfl
  | d :: ds, ρ, H => by
    obtain ⟨ρ1, h1, h2, h3⟩ := H d List.mem_cons_self
    have ih := lcM_fm P h ds ρ fun d m => H d (List.mem_cons_of_mem _ m)
    unfold lcM
    rw [h1, bnd_ret, h2, bnd_ret]
    cases hP : P d with
    | true =>
      dsimp only
      rw [h3 hP, bnd_ret, ih, bnd_ret, List.filter_cons_of_pos hP]
      rfl
    | false =>
      dsimp only
      rw [ih, List.filter_cons_of_neg (by rw [hP]; exact Bool.false_ne_true)]
theorem mLc_fm {vs : List Nat} {fa : Rho → M (List PyData)} {g : PyData → Rho → M Rho} {t : Rho → M Bool} {f : Rho → M PyData} {ρ : Rho} {ds : List PyData} (P : PyData → Bool) (h : PyData → PyData) (hf : fa ρ = ret ds) (hv : vs.all (plainAt ρ) = true) (hz : ds.length ≤ 16777216)
    (H : ∀ d ∈ ds, ∃ ρ1, g d (wipeR ρ vs) = ret ρ1 ∧ t ρ1 = ret (P d) ∧ (P d = true → f ρ1 = ret (h d))) : mLc vs fa g t f ρ = ret ((ds.filter P).map h) := by
  unfold mLc
  rw [hf, bnd_ret, if_pos ⟨hv, hz⟩, lcM_fm P h ds _ H]
  rfl
theorem mLc_map {vs : List Nat} {fa : Rho → M (List PyData)} {g : PyData → Rho → M Rho} {f : Rho → M PyData} {ρ : Rho} {ds : List PyData} (h : PyData → PyData) (hf : fa ρ = ret ds) (hv : vs.all (plainAt ρ) = true) (hz : ds.length ≤ 16777216)
    (H : ∀ d ∈ ds, ∃ ρ1, g d (wipeR ρ vs) = ret ρ1 ∧ f ρ1 = ret (h d)) : mLc vs fa g mYes f ρ = ret (ds.map h) := by
  rw [mLc_fm (t := mYes) (fun _ => true) h hf hv hz fun d m => let ⟨ρ1, a, b⟩ := H d m; ⟨ρ1, a, rfl, fun _ => b⟩]
  congr 2
  exact List.filter_eq_self.mpr fun _ _ => rfl
theorem put_of {i : Nat} {f g : Rho → M PyData} {ρ : Rho} {ds : List PyData} {d : PyData} {k : Nat} (h : ρ[i]? = some (some (.own ds))) (hd : f ρ = ret d) (hk : g ρ = ret (.int (k : Int))) (hl : k < ds.length) : sPut i f g ρ = ret (.nx (ρ.set i (some (.own (ds.set k d))))) := by
  unfold sPut
  rw [h]
  dsimp only
  rw [hd, bnd_ret, hk, bnd_ret]
  dsimp only
  have e : ixN ds.length (k : Int) = some k := by
    unfold ixN
    simp
    omega
  rw [e]
theorem fm_one {α : Type} {f : Nat → List α} {a : Nat} : ∀ {n : Nat}, a < n → (∀ i, i < n → i ≠ a → f i = []) → (List.range n).flatMap f = f a
  | 0, h, _ => absurd h (Nat.not_lt_zero _)
  | n + 1, h, H => by
    rw [fm_succ]
    by_cases e : a = n
    · subst e
      have : (List.range a).flatMap f = [] := by
        rw [List.flatMap_eq_nil_iff]
        intro i hi
        exact H i (by have := List.mem_range.mp hi; omega) (by have := List.mem_range.mp hi; omega)
      rw [this, List.nil_append]
    · rw [fm_one (by omega) fun i hi => H i (by omega), H n (by omega) (by omega), List.append_nil]
theorem fm_none {α : Type} {f : Nat → List α} {n : Nat} (H : ∀ i, i < n → f i = []) : (List.range n).flatMap f = [] := by
  rw [List.flatMap_eq_nil_iff]
  intro i hi
  exact H i (List.mem_range.mp hi)
end VW
/-! Mirrors that several laws share. -/
namespace VW
open PySem PySem.Spec PyProof.Rows L2
def lb_need_pieceX_1 : Rho → M Out := (sIf (mNot (mIsB (mCall F_is_voice (mCons (mV 1) mNil)))) (sRaise .piece) sNx)
def m_need_pieceX : Rho → M Out := (sSeq (sIf (mOr (mNot (mIsB (mB (mInst "list" (mV 0))))) (mNot (mChain pyLe pyLe (mC (.int 1)) (mCall pyLen (mCons (mV 0) mNil)) (mC (.int 6))))) (sRaise .piece) sNx) (sFor (tgN 1) (mLs (mV 0)) lb_need_pieceX_1))
def F_need_pieceX : List PyData → M PyData := fnD 2 m_need_pieceX
def m_need_numberX : Rho → M Out := (sIf (mNot (mIsB (mCall F_is_whole (mCons (mV 0) mNil)))) (sRaise .number) sNx)
def F_need_numberX : List PyData → M PyData := fnD 1 m_need_numberX
def lb_need_notes_1 : Rho → M Out := (sIf (mNot (mIsB (mCall F_is_note (mCons (mV 1) mNil)))) (sRaise .range) sNx)
def m_need_notes : Rho → M Out := (sFor (tgN 1) (mLs (mV 0)) lb_need_notes_1)
def F_need_notes : PyData → M PyData := fnI 2 m_need_notes
def m__law_whole : Rho → M Out := (sRet (mB (mAnd (mInst "int" (mV 0)) (mNot (mInst "bool" (mV 0))))))
def F__law_whole : List PyData → M PyData := fnD 1 m__law_whole
def lb__law_notes_1 : Rho → M Out := (sSeq (sSet 6 (m2 pyDiv (mV 5) (mC (.int 24)))) (sSeq (sSet 1 (m2 pyAdd (mV 1) (m2 pyMul (m2 pyIx (mL (mLst (mCons (mC (.int 0)) (mCons (mC (.int 0)) (mCons (mC (.int 0)) (mCons (mC (.int 0)) (mCons (mC (.int 1)) (mCons (mC (.int 3)) mNil)))))))) (m2 pyMod (mV 5) (mC (.int 6)))) (mV 3)))) (sSeq (sSet 7 (m2 pyIx (mL (mLst (mCons (m2 pySub (m2 pyMod (m2 pyDiv (mV 6) (mC (.int 4))) (mC (.int 5))) (mC (.int 2))) (mCons (m2 pySub (m2 pyMod (m2 pyDiv (mV 6) (mC (.int 4))) (mC (.int 5))) (mC (.int 2))) (mCons (m2 pySub (m2 pyMod (m2 pyDiv (mV 6) (mC (.int 4))) (mC (.int 15))) (mC (.int 7))) (mCons (m2 pySub (m2 pyMod (m2 pyDiv (mV 6) (mC (.int 4))) (mC (.int 41))) (mC (.int 20))) mNil)))))) (m2 pyMod (mV 6) (mC (.int 4))))) (sSeq (sSet 2 (m2 pySub (m2 pyMod (m2 pyAdd (m2 pyAdd (mV 2) (mV 7)) (mC (.int 200))) (mC (.int 401))) (mC (.int 200)))) (sSeq (sApp 4 (mTup (mCons (mV 1) (mCons (m2 pyMul (m2 pyAdd (mC (.int 1)) (m2 pyMod (m2 pyDiv (mV 5) (mC (.int 6))) (mC (.int 4)))) (mV 3)) (mCons (mV 2) mNil))))) (sSet 1 (m2 pyAdd (mV 1) (m2 pyMul (m2 pyAdd (mC (.int 1)) (m2 pyMod (m2 pyDiv (mV 5) (mC (.int 6))) (mC (.int 4)))) (mV 3)))))))))
def m__law_notes : Rho → M Out := (sSeq (sOwn 4 (mLst mNil)) (sSeq (sFor (tgN 5) (mLs (mV 0)) lb__law_notes_1) (sFrz 4 (sRet (mV 4)))))
def F__law_notes : List PyData → M PyData := fnD 8 m__law_notes
def lb__law_piece_1 : Rho → M Out := (sSeq (sSet 5 (mL (mLc [8] (mRng3 (mCons (m2 pyAdd (mC (.int 3)) (mV 4)) (mCons (mCall pyMin2 (mCons (mCall pyLen (mCons (mV 0) mNil)) (mCons (mC (.int 63)) mNil))) (mCons (mV 1) mNil)))) (tgN 8) mYes (m2 pyIx (mV 0) (mV 8))))) (sSeq (sSet 6 (m2 pySub (mCall F__law_at (mCons (mV 0) (mCons (mC (.int 2)) mNil))) (m2 pyMul (mC (.int 5)) (mV 4)))) (sSeq (sSet 7 (m2 pyMul (m2 pyMod (m2 pyAdd (m2 pyDiv (mCall F__law_at (mCons (mV 0) (mCons (mC (.int 1)) mNil))) (mC (.int 1600))) (m2 pyMul (mV 4) (m2 pyDiv (mCall F__law_at (mCons (mV 0) (mCons (mC (.int 2)) mNil))) (mC (.int 401))))) (mC (.int 5))) (mV 2))) (sApp 3 (mCall F__law_notes (mCons (mV 5) (mCons (mV 7) (mCons (m2 pySub (m2 pyMod (mV 6) (mC (.int 401))) (mC (.int 200))) (mCons (mV 2) mNil)))))))))
def m__law_piece : Rho → M Out := (sSeq (sSet 1 (m2 pyAdd (mC (.int 1)) (m2 pyMod (mCall F__law_at (mCons (mV 0) (mCons (mC (.int 0)) mNil))) (mC (.int 4))))) (sSeq (sIf (m2B pyEq (m2 pyMod (m2 pyDiv (mCall F__law_at (mCons (mV 0) (mCons (mC (.int 0)) mNil))) (mC (.int 4))) (mC (.int 8))) (mC (.int 1))) (sSet 1 (m2 pyAdd (mC (.int 5)) (m2 pyMod (m2 pyDiv (mCall F__law_at (mCons (mV 0) (mCons (mC (.int 0)) mNil))) (mC (.int 32))) (mC (.int 2))))) sNx) (sSeq (sSet 2 (mC (.int 1))) (sSeq (sIf (m2B pyEq (m2 pyMod (mCall F__law_at (mCons (mV 0) (mCons (mC (.int 1)) mNil))) (mC (.int 8))) (mC (.int 1))) (sSet 2 (m2 pyAdd (mC (.int 1)) (m2 pyMod (m2 pyDiv (mCall F__law_at (mCons (mV 0) (mCons (mC (.int 1)) mNil))) (mC (.int 8))) (mC (.int 200))))) sNx) (sSeq (sOwn 3 (mLst mNil)) (sSeq (sFor (tgN 4) (mRng1 (mCons (mV 1) mNil)) lb__law_piece_1) (sFrz 3 (sRet (mV 3)))))))))
def F__law_piece : List PyData → M PyData := fnD 9 m__law_piece
end VW
namespace VW
open PySem PySem.Spec PyProof.Rows L2
theorem six (k : Int) (h : 0 ≤ k) (h' : k < 6) : ∃ x : Int, 0 ≤ x ∧ x ≤ 3 ∧ pyIx (.list [.int 0, .int 0, .int 0, .int 0, .int 1, .int 3]) (.int k) = ret (.int x) := by
  have : k = 0 ∨ k = 1 ∨ k = 2 ∨ k = 3 ∨ k = 4 ∨ k = 5 := by omega
  rcases this with rfl | rfl | rfl | rfl | rfl | rfl
  · exact ⟨0, by decide, by decide, rfl⟩
  · exact ⟨0, by decide, by decide, rfl⟩
  · exact ⟨0, by decide, by decide, rfl⟩
  · exact ⟨0, by decide, by decide, rfl⟩
  · exact ⟨1, by decide, by decide, rfl⟩
  · exact ⟨3, by decide, by decide, rfl⟩
theorem four (a b c d k : Int) (h : 0 ≤ k) (h' : k < 4) : ∃ x : Int, pyIx (.list [.int a, .int b, .int c, .int d]) (.int k) = ret (.int x) := by
  have : k = 0 ∨ k = 1 ∨ k = 2 ∨ k = 3 := by omega
  rcases this with rfl | rfl | rfl | rfl
  · exact ⟨a, rfl⟩
  · exact ⟨b, rfl⟩
  · exact ⟨c, rfl⟩
  · exact ⟨d, rfl⟩
theorem F_notes5 (ms : List Int) (t p s : Int) (ht : 0 ≤ t ∧ t ≤ 800) (hp : -200 ≤ p ∧ p ≤ 200) (hs : 1 ≤ s ∧ s ≤ 200) (hm : ms.length ≤ 60) :
    ∃ w : List Nt, F__law_notes [.list (ms.map .int), .int t, .int p, .int s] = ret (vc w) ∧ okV w ∧ w.length = ms.length := by
  obtain ⟨ρ', e1, T, q, w, x5, x6, x7, rfl, hl, hv, -⟩ := for_nx (g := tgN 5) (fa := mLs (mV 0)) (b := lb__law_notes_1) (ρ := [some (.imm (.list (ms.map .int))), some (.imm (.int t)), some (.imm (.int p)), some (.imm (.int s)), some (.own []), none, none, none]) (ds := ms.map .int)
    (fun i ρ => ∃ (T q : Int) (w : List Nt) (x5 x6 x7 : Option Sl), ρ = [some (.imm (.list (ms.map .int))), some (.imm (.int T)), some (.imm (.int q)), some (.imm (.int s)), some (.own (w.map nt)), x5, x6, x7] ∧ w.length = i ∧ okV w ∧ (∀ m, w.getLast? = some m → m.1 + m.2.1 ≤ T) ∧ 0 ≤ T ∧ T ≤ 800 + 1400 * i ∧ -200 ≤ q ∧ q ≤ 200)
    rfl ⟨t, p, [], none, none, none, rfl, rfl, ⟨fun n hn => (nomatch hn), fun i m n hm => by simp at hm⟩, fun m hm => by simp at hm, ht.1, by omega, hp.1, hp.2⟩ fun i d ρ hd ⟨T, q, w, x5, x6, x7, hρ, hl, hv, hL, hT1, hT2, hq1, hq2⟩ => by
      obtain ⟨n, hn, rfl⟩ := map_get hd
      have hi := (List.getElem?_eq_some_iff.mp hn).1
      subst hρ
      obtain ⟨x, hx1, hx2, hx⟩ := six (n % 6) (by omega) (by omega)
      obtain ⟨y, hy⟩ := four (n / 24 / 4 % 5 - 2) (n / 24 / 4 % 5 - 2) (n / 24 / 4 % 15 - 7) (n / 24 / 4 % 41 - 20) (n / 24 % 4) (by omega) (by omega)
      have m1 : pyMul (.int x) (.int s) = ret (.int (x * s)) := w_muli (.inl ⟨by omega, by omega⟩)
      have m2 : pyMul (.int (1 + n / 6 % 4)) (.int s) = ret (.int ((1 + n / 6 % 4) * s)) := w_muli (.inl ⟨by omega, by omega⟩)
      have b1 : 0 ≤ x * s := Int.mul_nonneg hx1 (by omega)
      have b2 : x * s ≤ 3 * 200 := Int.mul_le_mul hx2 hs.2 (by omega) (by omega)
      have b3 : 1 * 1 ≤ (1 + n / 6 % 4) * s := Int.mul_le_mul (by omega) hs.1 (by omega) (by omega)
      have b4 : (1 + n / 6 % 4) * s ≤ 4 * 200 := Int.mul_le_mul (by omega) hs.2 (by omega) (by omega)
      generalize hA : x * s = A at *
      generalize hB : (1 + n / 6 % 4) * s = B at *
      obtain ⟨Q, eQ, hQ1, hQ2⟩ : ∃ Q : Int, Q = (q + y + 200) % 401 - 200 ∧ -200 ≤ Q ∧ Q ≤ 200 := ⟨_, rfl, by omega, by omega⟩
      have hw : (w.map nt).length < 16777216 := by rw [List.length_map]; omega
      refine ⟨_, .inl ?_, T + A + B, Q, w ++ [(T + A, B, Q)], some (.imm (.int n)), some (.imm (.int (n / 24))), some (.imm (.int y)), rfl, ?_⟩
      · simp [lb__law_notes_1, w_divi, w_modi, hx, hy, m1, m2, hA, hB, eQ, nt]
        omega
      · refine ⟨by rw [List.length_append, hl]; rfl, okV_snoc hv ⟨by show 0 ≤ T + A; omega, by show 1 ≤ B; omega, by show T + A + B ≤ 100000; omega, hQ1, hQ2⟩ fun m hm => Int.le_trans (hL m hm) (by show T ≤ T + A; omega), fun m hm => ?_, by omega, by omega, hQ1, hQ2⟩
        rw [List.getLast?_concat] at hm
        cases hm
        exact Int.le_refl _
  rw [List.length_map] at hl
  exact ⟨w, by simp [F__law_notes, m__law_notes, startR, e1, vc], hv, hl⟩
theorem bnd_tgN {i : Nat} {d : PyData} {ρ : Rho} (b : Rho → M Out) : bnd (tgN i d ρ) b = b (ρ.set i (some (.imm d))) := rfl
theorem begun5 {G : List PyData → M PyData} {S : PyData} {a1 a2 s : Int} (i : Int) (hi : 0 ≤ i ∧ i < 6) (hs : 1 ≤ s ∧ s ≤ 200) (f1 : G [S, .int 1] = ret (.int a1)) (f2 : G [S, .int 2] = ret (.int a2)) (b d x5 x6 x7 x8 : Option Sl) :
    ∃ Y : Int, 0 ≤ Y ∧ Y ≤ 800 ∧ (m2 pyMul (m2 pyMod (m2 pyAdd (m2 pyDiv (mCall G (mCons (mV 0) (mCons (mC (.int 1)) mNil))) (mC (.int 1600))) (m2 pyMul (mV 4) (m2 pyDiv (mCall G (mCons (mV 0) (mCons (mC (.int 2)) mNil))) (mC (.int 401))))) (mC (.int 5))) (mV 2)) [some (.imm S), b, some (.imm (.int s)), d, some (.imm (.int i)), x5, x6, x7, x8] = ret (.int Y) := by
  have e1 := w_divi (i := a1) (j := 1600) ⟨by decide, by decide⟩
  have e2 := w_divi (i := a2) (j := 401) ⟨by decide, by decide⟩
  have k2 : ∀ x : Int, pyMul (.int i) (.int x) = ret (.int (i * x)) := fun x => w_muli (.inl ⟨by omega, by omega⟩)
  have e3 := w_modi (i := a1 / 1600 + i * (a2 / 401)) (j := 5) (by decide)
  have r1 := Int.emod_nonneg (a1 / 1600 + i * (a2 / 401)) (show (5 : Int) ≠ 0 by decide)
  have r2 := Int.emod_lt_of_pos (a1 / 1600 + i * (a2 / 401)) (show (0 : Int) < 5 by decide)
  generalize (a1 / 1600 + i * (a2 / 401)) % 5 = R at e3 r1 r2
  have k3 : pyMul (.int R) (.int s) = ret (.int (R * s)) := w_muli (.inl ⟨by omega, by omega⟩)
  refine ⟨R * s, Int.mul_nonneg r1 (by omega), Int.le_trans (Int.mul_le_mul (show R ≤ 4 by omega) hs.2 (by omega) (by omega)) (by decide), ?_⟩
  rw [w_m2, w_m2, w_m2, w_m2, w_m2, w_m2, w_mCall, w_mCall, w_mCons, w_mCons, w_mCons, w_mCons, w_mNil, w_mV0]
  simp only [bnd_ret, w_mC, f1, f2, w_mVs, w_mV0, e1, e2, k2, w_addi, e3, k3]
theorem piece_step (ns : List Int) (hz : ns.length ≤ 63) (m : Nat) (hm1 : 1 ≤ m) (hm2 : m ≤ 6) (al : Int) (hal : 1 ≤ al ∧ al ≤ 200) (p : List (List Nt)) (hp : p.length ≤ 6) (x4 x5 x6 x7 : Option Sl) (i : Nat) (hi : i < 6) :
    ∃ (v : List Nt) (y5 y6 y7 : Option Sl), okV v ∧ v.length ≤ 60 ∧ bnd (tgN 4 (.int (i : Int)) [some (.imm (sc ns)), some (.imm (.int m)), some (.imm (.int al)), some (.own (p.map vc)), x4, x5, x6, x7, none]) lb__law_piece_1 =
      ret (.nx [some (.imm (sc ns)), some (.imm (.int m)), some (.imm (.int al)), some (.own ((p ++ [v]).map vc)), some (.imm (.int i)), y5, y6, y7, none]) := by
  have f1 : F__law_at [sc ns, .int 1] = ret (.int (ns.getD 1 0)) := F_at ns 1
  have f2 : F__law_at [sc ns, .int 2] = ret (.int (ns.getD 2 0)) := F_at ns 2
  generalize ns.getD 1 0 = a1 at f1
  generalize ns.getD 2 0 = a2 at f2
  obtain ⟨ms, hms, hml⟩ : ∃ ms : List Int, mLc [8] (mRng3 (mCons (m2 pyAdd (mC (.int 3)) (mV 4)) (mCons (mCall pyMin2 (mCons (mCall pyLen (mCons (mV 0) mNil)) (mCons (mC (.int 63)) mNil))) (mCons (mV 1) mNil)))) (tgN 8) mYes (m2 pyIx (mV 0) (mV 8)) [some (.imm (sc ns)), some (.imm (.int m)), some (.imm (.int al)), some (.own (p.map vc)), some (.imm (.int i)), x5, x6, x7, none] = ret (ms.map .int) ∧ ms.length ≤ 60 := by
    have h0 : (mCons (m2 pyAdd (mC (.int 3)) (mV 4)) (mCons (mCall pyMin2 (mCons (mCall pyLen (mCons (mV 0) mNil)) (mCons (mC (.int 63)) mNil))) (mCons (mV 1) mNil))) [some (.imm (sc ns)), some (.imm (.int m)), some (.imm (.int al)), some (.own (p.map vc)), some (.imm (.int i)), x5, x6, x7, none] = ret [.int (3 + (i : Int)), .int (if (63 : Int) < ns.length then 63 else ns.length), .int m] := by
      simp [sc]
    have hlen : (if (63 : Int) < ns.length then 63 else (ns.length : Int)) = ns.length := if_neg (by omega)
    rw [hlen] at h0
    obtain ⟨n, h1, h2, h3⟩ := rng3_of h0 ⟨by omega, by omega⟩ ⟨by omega, by omega⟩ ⟨by omega, by omega⟩
    refine ⟨(List.range n).map fun k => ns.getD (3 + i + k * m) 0, ?_, by rw [List.length_map, List.length_range]; omega⟩
    refine (mLc_map (fun d => match d with | .int v => .int (ns.getD v.toNat 0) | _ => .none) h1 rfl (by rw [List.length_map, List.length_range]; omega) fun d hd => ?_).trans ?_
    · obtain ⟨k, hk, rfl⟩ := List.mem_map.mp hd
      have hk := h2 k (List.mem_range.mp hk)
      refine ⟨_, rfl, ?_⟩
      have e : (3 : Int) + i + k * m = ((3 + i + k * m : Nat) : Int) := by
        rw [Int.natCast_add, Int.natCast_add, Int.natCast_mul]
        rfl
      have a : pyIx (sc ns) (.int (3 + (i : Int) + k * m)) = ret (.int (ns.getD (3 + (i : Int) + k * m).toNat 0)) := by
        rw [e, Int.toNat_natCast]
        rw [e] at hk
        have hk' : 3 + i + k * m < ns.length := by omega
        show ofO (atI (ns.map PyData.int) ((3 + i + k * m : Nat) : Int)) _ = _
        rw [atI_nat (v := PyData.int ns[3 + i + k * m]) (by rw [List.getElem?_map, List.getElem?_eq_getElem hk']; rfl)]
        rw [List.getD_eq_getElem?_getD, List.getElem?_eq_getElem hk']
        rfl
      simp [wipeR, a]
    · congr 1
      rw [List.map_map, List.map_map]
      apply List.map_congr_left
      intro k _
      show PyData.int (ns.getD (3 + (i : Int) + k * m).toNat 0) = PyData.int (ns.getD (3 + i + k * m) 0)
      have e : (3 : Int) + i + k * m = ((3 + i + k * m : Nat) : Int) := by
        rw [Int.natCast_add, Int.natCast_add, Int.natCast_mul]
        rfl
      rw [e, Int.toNat_natCast]
  have k1 : pyMul (.int 5) (.int (i : Int)) = ret (.int (5 * i)) := w_muli (.inr ⟨by omega, by omega⟩)
  generalize (5 : Int) * (i : Int) = Z at k1
  obtain ⟨Y, hY1, hY2, k2⟩ := begun5 (i : Int) ⟨by omega, by omega⟩ hal f1 f2 (some (.imm (.int m))) (some (.own (p.map vc))) (some (.imm (.list (ms.map .int)))) (some (.imm (.int (a2 - Z)))) x7 none
  obtain ⟨v, hv1, hv2, hv3⟩ := F_notes5 ms Y ((a2 - Z) % 401 - 200) al ⟨hY1, hY2⟩ ⟨by omega, by omega⟩ hal hml
  have hpl : (p.map vc).length < 16777216 := by rw [List.length_map]; omega
  refine ⟨v, some (.imm (.list (ms.map .int))), some (.imm (.int (a2 - Z))), some (.imm (.int Y)), hv2, by omega, ?_⟩
  have hs : lb__law_piece_1 [some (.imm (sc ns)), some (.imm (.int m)), some (.imm (.int al)), some (.own (p.map vc)), some (.imm (.int i)), x5, x6, x7, none] = ret (.nx [some (.imm (sc ns)), some (.imm (.int m)), some (.imm (.int al)), some (.own ((p ++ [v]).map vc)), some (.imm (.int i)), some (.imm (.list (ms.map .int))), some (.imm (.int (a2 - Z))), some (.imm (.int Y)), none]) := by
    unfold lb__law_piece_1
    refine seq_eq (ρ' := [some (.imm (sc ns)), some (.imm (.int m)), some (.imm (.int al)), some (.own (p.map vc)), some (.imm (.int i)), some (.imm (.list (ms.map .int))), x6, x7, none]) (by rw [w_sSet, w_mL, hms]; rfl) ?_
    refine seq_eq (ρ' := [some (.imm (sc ns)), some (.imm (.int m)), some (.imm (.int al)), some (.own (p.map vc)), some (.imm (.int i)), some (.imm (.list (ms.map .int))), some (.imm (.int (a2 - Z))), x7, none]) (by simp [f2, k1]) ?_
    refine seq_eq (ρ' := [some (.imm (sc ns)), some (.imm (.int m)), some (.imm (.int al)), some (.own (p.map vc)), some (.imm (.int i)), some (.imm (.list (ms.map .int))), some (.imm (.int (a2 - Z))), some (.imm (.int Y)), none]) (by rw [w_sSet, k2]; rfl) ?_
    have hpl' : p.length < 16777216 := by omega
    simp [w_modi, hv1, hpl']
  exact (bnd_tgN _).trans hs
theorem F_piece (ns : List Int) (hz : ns.length ≤ 63) : ∃ p : List (List Nt), F__law_piece [sc ns] = ret (pc p) ∧ okP p ∧ ∀ v ∈ p, v.length ≤ 60 := by
  have f0 : F__law_at [sc ns, .int 0] = ret (.int (ns.getD 0 0)) := F_at ns 0
  have f1 : F__law_at [sc ns, .int 1] = ret (.int (ns.getD 1 0)) := F_at ns 1
  have f0' := f0
  have f1' := f1
  generalize ns.getD 0 0 = a0 at f0'
  generalize ns.getD 1 0 = a1 at f1'
  obtain ⟨m, hm, hm1, hm2⟩ : ∃ m : Nat, (if a0 / 4 % 8 = 1 then 5 + a0 / 32 % 2 else 1 + a0 % 4) = (m : Int) ∧ 1 ≤ m ∧ m ≤ 6 := ⟨(if a0 / 4 % 8 = 1 then 5 + a0 / 32 % 2 else 1 + a0 % 4).toNat, by split <;> omega, by split <;> omega, by split <;> omega⟩
  obtain ⟨al, hal, hal1, hal2⟩ : ∃ al : Int, (if a1 % 8 = 1 then 1 + a1 / 8 % 200 else 1) = al ∧ 1 ≤ al ∧ al ≤ 200 := ⟨_, rfl, by split <;> omega, by split <;> omega⟩
  obtain ⟨ρ', e1, p, x4, x5, x6, x7, rfl, hl, hp⟩ := for_nx (g := tgN 4) (fa := mRng1 (mCons (mV 1) mNil)) (b := lb__law_piece_1) (ρ := [some (.imm (sc ns)), some (.imm (.int m)), some (.imm (.int al)), some (.own []), none, none, none, none, none]) (ds := (List.range m).map fun i : Nat => PyData.int (i : Int))
    (fun i ρ => ∃ (p : List (List Nt)) (x4 x5 x6 x7 : Option Sl), ρ = [some (.imm (sc ns)), some (.imm (.int m)), some (.imm (.int al)), some (.own (p.map vc)), x4, x5, x6, x7, none] ∧ p.length = i ∧ ∀ v ∈ p, okV v ∧ v.length ≤ 60)
    (rng1_of (n := m) (by simp) (by omega)) ⟨[], none, none, none, none, rfl, rfl, fun v hv => (nomatch hv)⟩ fun i d ρ hd ⟨p, x4, x5, x6, x7, hρ, hl, hp⟩ => by
      obtain ⟨hi, rfl⟩ := map_range hd
      subst hρ
      obtain ⟨v, y5, y6, y7, hv1, hv2, e⟩ := piece_step ns hz m hm1 hm2 al ⟨hal1, hal2⟩ p (by omega) x4 x5 x6 x7 i (by omega)
      refine ⟨_, .inl e, p ++ [v], _, _, _, _, rfl, by rw [List.length_append, hl]; rfl, fun w hw => ?_⟩
      rcases List.mem_append.mp hw with hw | hw
      · exact hp w hw
      · rw [List.mem_singleton.mp hw]
        exact ⟨hv1, hv2⟩
  rw [List.length_map, List.length_range] at hl
  refine ⟨p, ?_, ⟨by omega, by omega, fun v hv => (hp v hv).1⟩, fun v hv => (hp v hv).2⟩
  have hb : m__law_piece [some (.imm (sc ns)), none, none, none, none, none, none, none, none] = ret (.rt (pc p)) := by
    unfold m__law_piece
    refine seq_eq (ρ' := [some (.imm (sc ns)), some (.imm (.int (1 + a0 % 4))), none, none, none, none, none, none, none]) (by simp [f0', w_modi]) ?_
    refine seq_eq (ρ' := [some (.imm (sc ns)), some (.imm (.int m)), none, none, none, none, none, none, none]) (by
      by_cases c : a0 / 4 % 8 = 1
      · rw [if_pos c] at hm
        simp [f0', w_modi, w_divi, c, hm]
      · rw [if_neg c] at hm
        simp [f0', w_modi, w_divi, c, hm]) ?_
    refine seq_eq (ρ' := [some (.imm (sc ns)), some (.imm (.int m)), some (.imm (.int 1)), none, none, none, none, none, none]) (by simp) ?_
    refine seq_eq (ρ' := [some (.imm (sc ns)), some (.imm (.int m)), some (.imm (.int al)), none, none, none, none, none, none]) (by
      by_cases c : a1 % 8 = 1
      · rw [if_pos c] at hal
        simp [f1', w_modi, w_divi, c, hal]
      · rw [if_neg c] at hal
        subst hal
        simp [f1', w_modi, w_divi, c]) ?_
    refine seq_eq (ρ' := [some (.imm (sc ns)), some (.imm (.int m)), some (.imm (.int al)), some (.own []), none, none, none, none, none]) (by simp) ?_
    refine seq_eq e1 ?_
    rfl
  show bnd (m__law_piece (startR 9 [sc ns])) endD = _
  rw [show startR 9 [sc ns] = [some (.imm (sc ns)), none, none, none, none, none, none, none, none] from rfl, hb]
  rfl
end VW
/-! What is a note, a voice, a piece: of any data. -/
namespace VW
open PySem PySem.Spec PyProof.Rows L2
def wholeD : PyData → Bool
  | .int _ => true
  | _ => false
theorem F_wholeD (d : PyData) : F_is_whole [d] = ret (.bool (wholeD d)) := by
  cases d with
  | dict k => rcases tyName_dict k with h | h <;> simp [F_is_whole, m_is_whole, startR, isInst, isInstN, h, wholeD]
  | _ => simp [F_is_whole, m_is_whole, startR, isInst, isInstN, tyName, wholeD]
theorem F_lwholeD (d : PyData) : F__law_whole [d] = ret (.bool (wholeD d)) := by
  cases d with
  | dict k => rcases tyName_dict k with h | h <;> simp [F__law_whole, m__law_whole, startR, isInst, isInstN, h, wholeD]
  | _ => simp [F__law_whole, m__law_whole, startR, isInst, isInstN, tyName, wholeD]
def okNB (n : Nt) : Bool := decide (0 ≤ n.1) && (decide (1 ≤ n.2.1) && (decide (n.1 + n.2.1 ≤ 100000) && (decide (-200 ≤ n.2.2) && decide (n.2.2 ≤ 200))))
theorem okNB_iff {n : Nt} : okNB n = true ↔ okN n := by
  unfold okNB okN
  simp
def ntOf : PyData → Option Nt
  | .tuple [.int a, .int b, .int c] => some (a, b, c)
  | _ => none
theorem ntOf_some {d : PyData} {n : Nt} (h : ntOf d = some n) : d = nt n := by
  unfold ntOf at h
  split at h
  · cases h; rfl
  · cases h
theorem ntOf_nt (n : Nt) : ntOf (nt n) = some n := rfl
def noteD (d : PyData) : Bool := match ntOf d with
  | some n => okNB n
  | none => false
theorem noteD_nt (n : Nt) : noteD (nt n) = okNB n := rfl
theorem part_no {x : PyData} (h : wholeD x = false) : F_is_whole [x] = ret (.bool false) := by rw [F_wholeD, h]
theorem F_note_nt (n : Nt) : F_is_note [nt n] = ret (.bool (okNB n)) := by
  obtain ⟨t, l, p⟩ := n
  by_cases h1 : t < 0
  · have e : okNB (t, l, p) = false := by unfold okNB; simp; omega
    rw [e]
    simp [F_is_note, m_is_note, lb_is_note_1, w_sFor, startR, nt, isInstN, h1]
  · by_cases h2 : l < 1
    · have e : okNB (t, l, p) = false := by unfold okNB; simp; omega
      rw [e]
      simp [F_is_note, m_is_note, lb_is_note_1, w_sFor, startR, nt, isInstN, h1, h2]
    · by_cases h3 : 100000 < t + l
      · have e : okNB (t, l, p) = false := by unfold okNB; simp; omega
        rw [e]
        simp [F_is_note, m_is_note, lb_is_note_1, w_sFor, startR, nt, isInstN, h1, h2, h3]
      · have e : okNB (t, l, p) = (decide (-200 ≤ p) && decide (p ≤ 200)) := by
          unfold okNB
          simp [show 0 ≤ t by omega, show 1 ≤ l by omega, show t + l ≤ 100000 by omega]
        rw [e]
        simp [F_is_note, m_is_note, lb_is_note_1, w_sFor, startR, nt, isInstN, h1, h2, h3]
theorem whole_cases (x : PyData) : wholeD x = false ∨ ∃ i, x = .int i := by
  cases x with
  | int i => exact .inr ⟨i, rfl⟩
  | _ => exact .inl rfl
theorem F_noteD (d : PyData) : F_is_note [d] = ret (.bool (noteD d)) := by
  cases d with
  | tuple ds =>
    match ds with
    | [] => simp [F_is_note, m_is_note, startR, isInstN, noteD, ntOf]
    | [a] => simp [F_is_note, m_is_note, startR, isInstN, noteD, ntOf]
    | [a, b] => simp [F_is_note, m_is_note, startR, isInstN, noteD, ntOf]
    | [a, b, c] =>
      rcases whole_cases a with ha | ⟨i, rfl⟩
      · have e : noteD (.tuple [a, b, c]) = false := by
          cases a <;> first | rfl | cases ha
        rw [e]
        simp [F_is_note, m_is_note, lb_is_note_1, w_sFor, startR, isInstN, part_no ha]
      · rcases whole_cases b with hb | ⟨j, rfl⟩
        · have e : noteD (.tuple [.int i, b, c]) = false := by
            cases b <;> first | rfl | cases hb
          rw [e]
          simp [F_is_note, m_is_note, lb_is_note_1, w_sFor, startR, isInstN, part_no hb]
        · rcases whole_cases c with hc | ⟨k, rfl⟩
          · have e : noteD (.tuple [.int i, .int j, c]) = false := by
              cases c <;> first | rfl | cases hc
            rw [e]
            simp [F_is_note, m_is_note, lb_is_note_1, w_sFor, startR, isInstN, part_no hc]
          · exact F_note_nt (i, j, k)
    | a :: b :: c :: e :: r =>
      have h : ¬ ((r.length : Int) + 1 + 1 + 1 + 1 = 3) := by omega
      simp [F_is_note, m_is_note, startR, isInstN, noteD, ntOf, h]
  | dict k => rcases tyName_dict k with h | h <;> simp [F_is_note, m_is_note, startR, isInst, isInstN, h, noteD, ntOf]
  | _ => simp [F_is_note, m_is_note, startR, isInst, isInstN, tyName, noteD, ntOf]
theorem noteD_true {d : PyData} (h : noteD d = true) : ∃ n, d = nt n ∧ okN n := by
  unfold noteD at h
  cases e : ntOf d with
  | none => rw [e] at h; cases h
  | some n =>
    rw [e] at h
    exact ⟨n, ntOf_some e, okNB_iff.mp h⟩
def voiceL : Int → List PyData → Bool
  | _, [] => true
  | e, d :: r => match ntOf d with
    | some n => okNB n && (decide (e ≤ n.1) && voiceL (n.1 + n.2.1) r)
    | none => false
def voiceD : PyData → Bool
  | .list ds => voiceL 0 ds
  | _ => false
theorem voiceL_nt (e : Int) (n : Nt) (r : List PyData) : voiceL e (nt n :: r) = (okNB n && (decide (e ≤ n.1) && voiceL (n.1 + n.2.1) r)) := rfl
theorem voiceL_no {e : Int} {d : PyData} {r : List PyData} (h : ntOf d = none) : voiceL e (d :: r) = false := by
  unfold voiceL
  rw [h]
theorem loop_step {g : PyData → Rho → M Rho} {b : Rho → M Out} {ds : List PyData} {d : PyData} {ρ ρ1 : Rho} {r : M Out} (hg : g d ρ = ret ρ1) (hb : b ρ1 = r) : loopM g b (d :: ds) ρ = bnd r fun o => loopO o (loopM g b ds) := by
  rw [w_loop1, hg, bnd_ret, hb]
theorem loop_voice (D : PyData) : ∀ (ds : List PyData) (e : Int) (x : Option Sl), ∃ e' x', loopM (tgN 2) lb_is_voice_1 ds [some (.imm D), some (.imm (.int e)), x] = if voiceL e ds = true then ret (.nx [some (.imm D), e', x']) else ret (.rt (.bool false))
  | [], e, x => ⟨_, _, rfl⟩
  | d :: r, e, x => by
    cases hn : ntOf d with
    | none =>
      refine ⟨none, none, ?_⟩
      have hf : F_is_note [d] = ret (.bool false) := by rw [F_noteD]; unfold noteD; rw [hn]
      have st : lb_is_voice_1 [some (.imm D), some (.imm (.int e)), some (.imm d)] = ret (.rt (.bool false)) := by simp [lb_is_voice_1, hf]
      rw [loop_step (w_tgN) st, voiceL_no hn]
      rfl
    | some n =>
      have ed := ntOf_some hn
      subst ed
      have hf := F_note_nt n
      by_cases h1 : okNB n = true
      · by_cases h2 : e ≤ n.1
        · obtain ⟨e', x', ih⟩ := loop_voice D r (n.1 + n.2.1) (some (.imm (nt n)))
          refine ⟨e', x', ?_⟩
          have st : lb_is_voice_1 [some (.imm D), some (.imm (.int e)), some (.imm (nt n))] = ret (.nx [some (.imm D), some (.imm (.int (n.1 + n.2.1))), some (.imm (nt n))]) := by
            simp [lb_is_voice_1, hf, h1, show ¬ n.1 < e by omega]
          have ev : voiceL e (nt n :: r) = voiceL (n.1 + n.2.1) r := by rw [voiceL_nt, h1, decide_eq_true h2]; rfl
          rw [loop_step (w_tgN) st, ev]
          exact ih
        · refine ⟨none, none, ?_⟩
          have st : lb_is_voice_1 [some (.imm D), some (.imm (.int e)), some (.imm (nt n))] = ret (.rt (.bool false)) := by
            simp [lb_is_voice_1, hf, h1, show n.1 < e by omega]
          have ev : voiceL e (nt n :: r) = false := by rw [voiceL_nt, h1, decide_eq_false h2]; rfl
          rw [loop_step (w_tgN) st, ev]
          rfl
      · have h1' : okNB n = false := by simpa using h1
        refine ⟨none, none, ?_⟩
        have st : lb_is_voice_1 [some (.imm D), some (.imm (.int e)), some (.imm (nt n))] = ret (.rt (.bool false)) := by
          simp [lb_is_voice_1, hf, h1']
        have ev : voiceL e (nt n :: r) = false := by rw [voiceL_nt, h1']; rfl
        rw [loop_step (w_tgN) st, ev]
        rfl
/-- no dict but the empty one -/
def noD (d : PyData) : Prop := ∀ k, d = .dict k → k = []
theorem F_voiceD (d : PyData) (hd : noD d) : F_is_voice [d] = ret (.bool (voiceD d)) := by
  cases d with
  | list ds =>
    obtain ⟨e', x', h⟩ := loop_voice (.list ds) ds 0 none
    have hs : sFor (tgN 2) (mLs (mV 0)) lb_is_voice_1 [some (.imm (.list ds)), some (.imm (.int 0)), none] = if voiceL 0 ds = true then ret (.nx [some (.imm (.list ds)), e', x']) else ret (.rt (.bool false)) := h
    show _ = ret (PyData.bool (voiceL 0 ds))
    cases hv : voiceL 0 ds <;> rw [hv] at hs <;> simp [F_is_voice, m_is_voice, startR, isInstN, hs]
  | dict k =>
    have := hd k rfl
    subst this
    simp [F_is_voice, m_is_voice, startR, isInst, isInstN, tyName, voiceD]
  | _ => simp [F_is_voice, m_is_voice, startR, isInst, isInstN, tyName, voiceD]
def pieceD : PyData → Bool
  | .list vs => decide (1 ≤ vs.length ∧ vs.length ≤ 6) && vs.all voiceD
  | _ => false
/-- data that a piece is asked of -/
def clD (d : PyData) : Prop := noD d ∧ ∀ vs, d = .list vs → ∀ v ∈ vs, noD v
theorem loop_needX (D : PyData) : ∀ (vs : List PyData) (x : Option Sl), (∀ v ∈ vs, noD v) → ∃ x', loopM (tgN 1) lb_need_pieceX_1 vs [some (.imm D), x] = if vs.all voiceD = true then ret (.nx [some (.imm D), x']) else some (.er .piece)
  | [], x, _ => ⟨x, rfl⟩
  | v :: r, x, h => by
    have hv := F_voiceD v (h v List.mem_cons_self)
    rw [List.all_cons]
    cases e : voiceD v with
    | false =>
      have st : lb_need_pieceX_1 [some (.imm D), some (.imm v)] = some (.er .piece) := by simp [lb_need_pieceX_1, hv, e, sRaise]
      exact ⟨none, by rw [loop_step (w_tgN) st]; rfl⟩
    | true =>
      obtain ⟨x', ih⟩ := loop_needX D r (some (.imm v)) fun w hw => h w (List.mem_cons_of_mem _ hw)
      have st : lb_need_pieceX_1 [some (.imm D), some (.imm v)] = ret (.nx [some (.imm D), some (.imm v)]) := by simp [lb_need_pieceX_1, hv, e]
      exact ⟨x', by rw [loop_step (w_tgN) st]; exact ih⟩
theorem F_needD (d : PyData) (hd : clD d) : F_need_pieceX [d] = if pieceD d = true then ret .none else some (.er .piece) := by
  cases d with
  | list vs =>
    obtain ⟨x', h⟩ := loop_needX (.list vs) vs none (hd.2 vs rfl)
    have hs : sFor (tgN 1) (mLs (mV 0)) lb_need_pieceX_1 [some (.imm (.list vs)), none] = if vs.all voiceD = true then ret (.nx [some (.imm (.list vs)), x']) else some (.er .piece) := h
    by_cases c1 : (1 : Int) ≤ vs.length
    · by_cases c2 : (vs.length : Int) ≤ 6
      · have e : pieceD (.list vs) = vs.all voiceD := by
          show (decide _ && _) = _
          rw [decide_eq_true (by omega), Bool.true_and]
        rw [e]
        cases hv : vs.all voiceD <;> rw [hv] at hs <;> simp [F_need_pieceX, m_need_pieceX, startR, isInstN, c1, c2, hs]
      · have e : pieceD (.list vs) = false := by
          show (decide _ && _) = _
          rw [decide_eq_false (by omega), Bool.false_and]
        rw [e]
        simp [F_need_pieceX, m_need_pieceX, startR, isInstN, c1, c2, sRaise]
    · have e : pieceD (.list vs) = false := by
        show (decide _ && _) = _
        rw [decide_eq_false (by omega), Bool.false_and]
      rw [e]
      simp [F_need_pieceX, m_need_pieceX, startR, isInstN, c1, sRaise]
  | dict k =>
    have := hd.1 k rfl
    subst this
    simp [F_need_pieceX, m_need_pieceX, startR, isInst, isInstN, tyName, pieceD, sRaise]
  | _ => simp [F_need_pieceX, m_need_pieceX, startR, isInst, isInstN, tyName, pieceD, sRaise]
theorem F_numD (d : PyData) : F_need_numberX [d] = if wholeD d = true then ret .none else some (.er .number) := by
  cases h : wholeD d <;> simp [F_need_numberX, m_need_numberX, startR, F_wholeD, h, sRaise]
/-! ### drawn pieces are pieces -/
theorem voiceL_of {v : List Nt} : ∀ {e : Int}, (∀ n ∈ v, okN n) → (∀ n, v.head? = some n → e ≤ n.1) → (∀ (i : Nat) m n, v[i]? = some m → v[i + 1]? = some n → m.1 + m.2.1 ≤ n.1) → voiceL e (v.map nt) = true := by
  induction v with
  | nil => exact fun _ _ _ => rfl
  | cons n r ih =>
    intro e h1 h2 h3
    show (match ntOf (nt n) with
      | some n => okNB n && (decide (e ≤ n.1) && voiceL (n.1 + n.2.1) (r.map nt))
      | none => false) = true
    rw [ntOf_nt]
    have a := okNB_iff.mpr (h1 n List.mem_cons_self)
    have b := h2 n rfl
    have c := ih (e := n.1 + n.2.1) (fun m hm => h1 m (List.mem_cons_of_mem _ hm)) (fun m hm => h3 0 n m rfl (by rw [List.head?_eq_getElem?] at hm; exact hm)) fun i m k hm hk => h3 (i + 1) m k (by simpa using hm) (by simpa using hk)
    simp [a, b, c]
theorem voiceD_vc {v : List Nt} (h : okV v) : voiceD (vc v) = true :=
  voiceL_of h.1 (fun n hn => (h.1 n (List.mem_of_mem_head? (by rw [hn]; exact rfl))).1) h.2
theorem noD_vc (v : List Nt) : noD (vc v) := fun k e => by cases e
theorem clD_pc (p : List (List Nt)) : clD (pc p) := by
  refine ⟨fun k e => (nomatch e), fun vs e v hv => ?_⟩
  cases e
  obtain ⟨w, _, rfl⟩ := List.mem_map.mp hv
  exact noD_vc w
theorem pieceD_pc {p : List (List Nt)} (h : okP p) : pieceD (pc p) = true := by
  obtain ⟨h1, h2, h3⟩ := h
  show (decide (1 ≤ (p.map vc).length ∧ (p.map vc).length ≤ 6) && (p.map vc).all voiceD) = true
  rw [List.length_map, decide_eq_true ⟨h1, h2⟩, Bool.true_and, List.all_eq_true]
  intro d hd
  obtain ⟨v, hv, rfl⟩ := List.mem_map.mp hd
  exact voiceD_vc (h3 v hv)
theorem F_needP {p : List (List Nt)} (h : okP p) : F_need_pieceX [pc p] = ret .none := by
  rw [F_needD _ (clD_pc p), pieceD_pc h]
  rfl
end VW
/-! Tools. -/
namespace VW
open PySem PySem.Spec PyProof.Rows L2
theorem fnD_of {n : Nat} {b : Rho → M Out} {ds : List PyData} {d : PyData} (h : b (startR n ds) = ret (.rt d)) : fnD n b ds = ret d := by
  unfold fnD
  rw [h]
  rfl
theorem fnD_er {n : Nat} {b : Rho → M Out} {ds : List PyData} {x : Ex} (h : b (startR n ds) = some (.er x)) : fnD n b ds = some (.er x) := by
  unfold fnD
  rw [h]
  rfl
theorem seq_rt {f g : Rho → M Out} {ρ : Rho} {d : PyData} (h : f ρ = ret (.rt d)) : sSeq f g ρ = ret (.rt d) := by
  rw [w_sSeq, h]
  rfl
theorem seq_er {f g : Rho → M Out} {ρ : Rho} {x : Ex} (h : f ρ = some (.er x)) : sSeq f g ρ = some (.er x) := by
  rw [w_sSeq, h]
  rfl
theorem if_t {t : Rho → M Bool} {s u : Rho → M Out} {ρ : Rho} (h : t ρ = ret true) : sIf t s u ρ = s ρ := by
  unfold sIf
  rw [h]
  rfl
theorem if_f {t : Rho → M Bool} {s u : Rho → M Out} {ρ : Rho} (h : t ρ = ret false) : sIf t s u ρ = u ρ := by
  unfold sIf
  rw [h]
  rfl
theorem set_of {i : Nat} {f : Rho → M PyData} {ρ : Rho} {d : PyData} (h : f ρ = ret d) : sSet i f ρ = ret (.nx (ρ.set i (some (.imm d)))) := by
  rw [w_sSet, h]
  rfl
theorem setD_of {i : Nat} {f : Rho → M PyData} {ρ : Rho} {d : PyData} (h : f ρ = ret d) : sSetD i f ρ = ret (.nx (ρ.set i (some (slOf d)))) := by
  unfold sSetD
  rw [h]
  rfl
theorem ret_of {f : Rho → M PyData} {ρ : Rho} {d : PyData} (h : f ρ = ret d) : sRet f ρ = ret (.rt d) := by
  rw [w_sRet, h]
  rfl
theorem drop_of {f : Rho → M PyData} {ρ : Rho} {d : PyData} (h : f ρ = ret d) : sDrop f ρ = ret (.nx ρ) := by
  rw [w_sDrop, h]
  rfl
theorem drop_er {f : Rho → M PyData} {ρ : Rho} {x : Ex} (h : f ρ = some (.er x)) : sDrop f ρ = some (.er x) := by
  rw [w_sDrop, h]
  rfl
theorem ix_in {l : List PyData} {i : Int} (h : 0 ≤ i ∧ i < l.length) : ∃ d, pyIx (.list l) (.int i) = ret d ∧ d ∈ l := by
  obtain ⟨j, rfl⟩ := Int.eq_ofNat_of_zero_le h.1
  have hj : j < l.length := by omega
  exact ⟨l[j], w_ixl (List.getElem?_eq_getElem hj), List.getElem_mem hj⟩
theorem cut_mem {α : Type} {xs : List α} {lo hi : Option Int} {x : α} (h : x ∈ cutD xs lo hi) : x ∈ xs := List.mem_of_mem_drop (List.mem_of_mem_take h)
theorem cut_len {α : Type} {xs : List α} {lo hi : Option Int} : (cutD xs lo hi).length ≤ xs.length := by
  unfold cutD
  rw [List.length_take, List.length_drop]
  omega
theorem sl_list {l : List PyData} {lo hi : Option Int} : pySl (.list l) lo hi = ret (.list (cutD l lo hi)) := rfl
/-! ### comprehensions -/
def mapE (k : PyData → M PyData) : List PyData → M (List PyData)
  | [] => ret []
  | d :: ds => bnd (k d) fun z => bnd (mapE k ds) fun zs => ret (z :: zs)
theorem lcM_mapE {g : PyData → Rho → M Rho} {f : Rho → M PyData} (k : PyData → M PyData) : ∀ (ds : List PyData) (ρ : Rho), (∀ d ∈ ds, ∃ ρ1, g d ρ = ret ρ1 ∧ f ρ1 = k d) → lcM g mYes f ds ρ = mapE k ds
  | [], ρ, _ => rfl
  | d :: ds, ρ, H => by
    obtain ⟨ρ1, h1, h2⟩ := H d List.mem_cons_self
    have ih := lcM_mapE k ds ρ fun d m => H d (List.mem_cons_of_mem _ m)
    show bnd (g d ρ) (fun ρ1 => bnd (mYes ρ1) fun b => match b with
      | true => bnd (f ρ1) fun z => bnd (lcM g mYes f ds ρ) fun zs => ret (z :: zs)
      | false => lcM g mYes f ds ρ) = _
    rw [h1, bnd_ret]
    show bnd (f ρ1) (fun z => bnd (lcM g mYes f ds ρ) fun zs => ret (z :: zs)) = _
    rw [h2, ih]
    rfl
theorem lcR_mapE {vs : List Nat} {fa : Rho → M (List PyData)} {g : PyData → Rho → M Rho} {f : Rho → M PyData} {ρ : Rho} {ds : List PyData} (k : PyData → M PyData) (hf : fa ρ = ret ds) (hv : vs.all (plainAt ρ) = true) (hz : ds.length ≤ 16777216)
    (H : ∀ d ∈ ds, ∃ ρ1, g d (wipeR ρ vs) = ret ρ1 ∧ f ρ1 = k d) : mLcR vs fa g f ρ = mapE k ds := by
  unfold mLcR
  rw [hf, bnd_ret, if_pos ⟨hv, hz⟩, lcM_mapE k ds _ H]
theorem mapE_map {k : PyData → M PyData} {h : PyData → PyData} : ∀ {ds : List PyData}, (∀ d ∈ ds, k d = ret (h d)) → mapE k ds = ret (ds.map h)
  | [], _ => rfl
  | d :: ds, H => by
    unfold mapE
    rw [H d List.mem_cons_self, bnd_ret, mapE_map (ds := ds) fun e m => H e (List.mem_cons_of_mem _ m)]
    rfl
theorem lcR_map {vs : List Nat} {fa : Rho → M (List PyData)} {g : PyData → Rho → M Rho} {f : Rho → M PyData} {ρ : Rho} {ds : List PyData} (h : PyData → PyData) (hf : fa ρ = ret ds) (hv : vs.all (plainAt ρ) = true) (hz : ds.length ≤ 16777216)
    (H : ∀ d ∈ ds, ∃ ρ1, g d (wipeR ρ vs) = ret ρ1 ∧ f ρ1 = ret (h d)) : mLcR vs fa g f ρ = ret (ds.map h) := by
  rw [lcR_mapE (fun d => ret (h d)) hf hv hz H, mapE_map fun d _ => rfl]
theorem Pd.pc (p : List (List Nt)) : Pd 3 (pc p) := Pd.list fun d hd => by
  obtain ⟨v, _, rfl⟩ := List.mem_map.mp hd
  exact Pd.vc v
theorem slOf_pc (p : List (List Nt)) : slOf (pc p) = .deep (p.map (List.map nt)) := by
  have e : pc p = .list ((p.map (List.map nt)).map PyData.list) := by
    unfold VW.pc
    rw [List.map_map]
    rfl
  rw [e, slOf_deep]
/-- the lists within, copied -/
theorem copy_lc {i j : Nat} {ρ : Rho} {p : List (List Nt)} (hp : p.length ≤ 16777216) (hj : mV j ρ = ret (pc p)) (hpl : plainAt ρ i = true) (hi : i < ρ.length) : mLc [i] (mLs (mV j)) (tgN i) mYes (mL (mCallF pyListOf (mCons (mV i) mNil))) ρ = ret (p.map vc) := by
  have q := mLc_map (vs := [i]) (fa := mLs (mV j)) (g := tgN i) (f := mL (mCallF pyListOf (mCons (mV i) mNil))) (ρ := ρ) (ds := p.map vc) (fun d => d) (by rw [w_mLs, hj]; rfl) (by simp [hpl]) (by rw [List.length_map]; exact hp) fun d hd => by
    obtain ⟨v, hv, rfl⟩ := List.mem_map.mp hd
    refine ⟨_, w_tgN, ?_⟩
    have e : mV i ((wipeR ρ [i]).set i (some (.imm (vc v)))) = ret (vc v) := mV_of (List.getElem?_set_self (by rw [wipeR_length]; exact hi))
    rw [w_mL, w_mCallF, w_mCons, e, bnd_ret, w_mNil, bnd_ret, bnd_ret]
    rfl
  rw [q, List.map_id']
/-- the law's number -/
theorem num3 {S : PyData} {a0 a1 a2 : Int} (f0 : F__law_at [S, .int 0] = ret (.int a0)) (f1 : F__law_at [S, .int 1] = ret (.int a1)) (f2 : F__law_at [S, .int 2] = ret (.int a2)) (ρ : Rho) :
    (m2 pyMod (m2 pyAdd (m2 pyAdd (m2 pyMul (mCall F__law_at (mCons (mV 0) (mCons (mC (.int 0)) mNil))) (mC (.int 48271))) (m2 pyMul (mCall F__law_at (mCons (mV 0) (mCons (mC (.int 1)) mNil))) (mC (.int 16807)))) (mCall F__law_at (mCons (mV 0) (mCons (mC (.int 2)) mNil)))) (mC (.int 1000003))) (some (.imm S) :: ρ) = ret (.int ((a0 * 48271 + a1 * 16807 + a2) % 1000003)) := by
  have e1 := w_muli (i := a0) (j := 48271) (.inr ⟨by decide, by decide⟩)
  have e2 := w_muli (i := a1) (j := 16807) (.inr ⟨by decide, by decide⟩)
  have e3 := w_modi (i := a0 * 48271 + a1 * 16807 + a2) (j := 1000003) (by decide)
  simp only [w_m2, w_mCall, w_mCons, w_mNil, w_mV0, w_mC, bnd_ret, f0, f1, f2, e1, e2, e3, w_addi]
@[simp] theorem w_frz0d {dss : List (List PyData)} {ρ : Rho} : frz 0 (some (.deep dss) :: ρ) = some (.imm (.list (dss.map PyData.list))) :: ρ := rfl
@[simp] theorem w_sSetD {i : Nat} {f : Rho → M PyData} {ρ : Rho} : sSetD i f ρ = bnd (f ρ) fun d => ret (.nx (ρ.set i (some (slOf d)))) := rfl
@[simp] theorem w_mFrzD {i : Nat} {f : Rho → M PyData} {ρ : Rho} : mFrzD i f ρ = bnd (f (frz i ρ)) fun d => if flatL d = true then ret d else none := rfl
@[simp] theorem w_mFrz {i : Nat} {f : Rho → M PyData} {ρ : Rho} : mFrz i f ρ = bnd (f (frz i ρ)) fun d => if atom d = true then ret d else none := rfl
@[simp] theorem w_mCallI {F : PyData → M PyData} {fa : Rho → M (List PyData)} {ρ : Rho} : mCallI F fa ρ = bnd (fa ρ) fun ds => bnd (F (.list ds)) fun _ => ret ds := rfl
theorem deep_pc (p : List (List Nt)) : PyData.list ((p.map (List.map nt)).map PyData.list) = pc p := by
  unfold VW.pc
  rw [List.map_map]
  rfl
theorem appD_of {i : Nat} {f : Rho → M (List PyData)} {ρ : Rho} {dss : List (List PyData)} {ds : List PyData} (hi : ρ[i]? = some (some (.deep dss))) (h : f ρ = ret ds) (hz : dss.length < 16777216) : sAppD i f ρ = ret (Out.nx (ρ.set i (some (.deep (dss ++ [ds]))))) := by
  unfold sAppD
  rw [hi]
  show bnd (f ρ) (fun d => if dss.length < 16777216 then ret (Out.nx (ρ.set i (some (.deep (dss ++ [d]))))) else none) = _
  rw [h, bnd_ret, if_pos hz]
theorem appR_of {i : Nat} {g f : Rho → M PyData} {ρ : Rho} {dss : List (List PyData)} {k : Int} {j : Nat} {d : PyData} (hi : ρ[i]? = some (some (.deep dss))) (hk : g ρ = ret (.int k)) (hj : ixN dss.length k = some j) (h : f ρ = ret d) (hz : (dss.getD j []).length < 16777216) : sAppR i g f ρ = ret (Out.nx (ρ.set i (some (.deep (dss.set j (dss.getD j [] ++ [d])))))) := by
  unfold sAppR
  rw [hi]
  show bnd (g ρ) _ = _
  rw [hk, bnd_ret]
  show (match ixN dss.length k with
      | some j => bnd (f ρ) fun d => if (dss.getD j []).length < 16777216 then ret (Out.nx (ρ.set i (some (.deep (dss.set j (dss.getD j [] ++ [d])))))) else none
      | none => none) = _
  rw [hj]
  show bnd (f ρ) (fun d => if (dss.getD j []).length < 16777216 then ret (Out.nx (ρ.set i (some (.deep (dss.set j (dss.getD j [] ++ [d])))))) else none) = _
  rw [h, bnd_ret, if_pos hz]
theorem forApp_of {i j : Nat} {d : PyData} {ρ : Rho} {dss : List (List PyData)} (hi : ρ[i]? = some (some (.deep dss))) (hp : plainAt ρ j = true) (hj : j ≠ i ∧ j < ρ.length) (hz : (dss.all fun r => decide (r.length < 16777216)) = true) : sForApp i j d ρ = ret (Out.nx ((ρ.set j none).set i (some (.deep (dss.map fun r => r ++ [d]))))) := by
  unfold sForApp
  rw [hi]
  show (if plainAt ρ j = true ∧ (j ≠ i ∧ j < ρ.length) ∧ (dss.all fun r => decide (r.length < 16777216)) = true then ret (Out.nx ((ρ.set j none).set i (some (.deep (dss.map fun r => r ++ [d]))))) else none) = _
  rw [if_pos ⟨hp, hj, hz⟩]
end VW
/-! What the laws of moved pieces share. -/
namespace VW
open PySem PySem.Spec PyProof.Rows L2
def m__law_is_note : Rho → M Out := (sRet (mB (mAnd (m2B pyGe (m2 pyIx (mV 0) (mC (.int 0))) (mC (.int 0))) (mAnd (m2B pyGe (m2 pyIx (mV 0) (mC (.int 1))) (mC (.int 1))) (mAnd (m2B pyLe (m2 pyAdd (m2 pyIx (mV 0) (mC (.int 0))) (m2 pyIx (mV 0) (mC (.int 1)))) (mC (.int 100000))) (mChain pyLe pyLe (m1 pyNeg (mC (.int 200))) (m2 pyIx (mV 0) (mC (.int 2))) (mC (.int 200))))))))
def F__law_is_note : List PyData → M PyData := fnD 1 m__law_is_note
def lb__law_same_2 : Rho → M Out := (sIf (mOr (mNot (mIsB (mB (mInst "tuple" (mV 4))))) (mOr (m2B pyGt (mCall pyLen (mCons (mL (mLc [6] (mTs (mV 4)) (tgN 6) (mNot (mIsB (mCall F__law_whole (mCons (mV 6) mNil)))) (mV 6))) mNil)) (mC (.int 0))) (m2B pyNe (mV 4) (mV 5)))) (sRet (mC (.bool false))) sNx)
def lb__law_same_1 : Rho → M Out := (sSeq (sIf (mOr (mNot (mIsB (mB (mInst "list" (mV 2))))) (m2B pyNe (mCall pyLen (mCons (mV 2) mNil)) (mCall pyLen (mCons (mV 3) mNil)))) (sRet (mC (.bool false))) sNx) (sFor (tgT 2 (tgsCons (tgN 4) (tgsCons (tgN 5) tgsNil))) (mZip (mCons (mV 2) (mCons (mV 3) mNil))) lb__law_same_2))
def m__law_same : Rho → M Out := (sSeq (sIf (mOr (mNot (mIsB (mB (mInst "list" (mV 0))))) (m2B pyNe (mCall pyLen (mCons (mV 0) mNil)) (mCall pyLen (mCons (mV 1) mNil)))) (sRet (mC (.bool false))) sNx) (sSeq (sFor (tgT 2 (tgsCons (tgN 2) (tgsCons (tgN 3) tgsNil))) (mZip (mCons (mV 0) (mCons (mV 1) mNil))) lb__law_same_1) (sRet (mC (.bool true)))))
def F__law_same : List PyData → M PyData := fnD 7 m__law_same
def m__law_own : Rho → M Out := (sSeq (sForApp 0 3 (.tuple [(.int 0), (.int 0), (.int 0)])) (sSeq (sIf (mFrzT 1 (m2B pyNe (mV 1) (mV 2))) (sRet (mC (.bool false))) sNx) (sSeq (sForApp 1 3 (.tuple [(.int 0), (.int 0), (.int 0)])) (sRet (mC (.bool true))))))
def F__law_own : List Sl → M PyData := fnS 4 m__law_own
theorem F_lnote (n : Nt) : F__law_is_note [nt n] = ret (.bool (okNB n)) := by
  obtain ⟨t, l, p⟩ := n
  have e : okNB (t, l, p) = (decide (0 ≤ t) && (decide (1 ≤ l) && (decide (t + l ≤ 100000) && (decide (-200 ≤ p) && decide (p ≤ 200))))) := rfl
  rw [e]
  by_cases h1 : 0 ≤ t
  · by_cases h2 : 1 ≤ l
    · by_cases h3 : t + l ≤ 100000
      · by_cases h4 : -200 ≤ p
        · simp [F__law_is_note, m__law_is_note, startR, nt, h1, h2, h3, h4]
        · simp [F__law_is_note, m__law_is_note, startR, nt, h1, h2, h3, h4]
      · simp [F__law_is_note, m__law_is_note, startR, nt, h1, h2, h3]
    · simp [F__law_is_note, m__law_is_note, startR, nt, h1, h2]
  · simp [F__law_is_note, m__law_is_note, startR, nt, h1]
theorem loop_nn (D : PyData) : ∀ (v : List Nt) (x : Option Sl), ∃ x', loopM (tgN 1) lb_need_notes_1 (v.map nt) [some (.imm D), x] = if v.all okNB = true then ret (.nx [some (.imm D), x']) else some (.er .range)
  | [], x => ⟨x, rfl⟩
  | n :: r, x => by
    have hf := F_note_nt n
    rw [List.all_cons]
    cases e : okNB n with
    | false =>
      have st : lb_need_notes_1 [some (.imm D), some (.imm (nt n))] = some (.er .range) := by simp [lb_need_notes_1, hf, e, sRaise]
      exact ⟨none, by rw [List.map_cons, loop_step (w_tgN) st]; rfl⟩
    | true =>
      obtain ⟨x', ih⟩ := loop_nn D r (some (.imm (nt n)))
      have st : lb_need_notes_1 [some (.imm D), some (.imm (nt n))] = ret (.nx [some (.imm D), some (.imm (nt n))]) := by simp [lb_need_notes_1, hf, e]
      exact ⟨x', by rw [List.map_cons, loop_step (w_tgN) st]; exact ih⟩
theorem F_needNotes (v : List Nt) : F_need_notes (vc v) = if v.all okNB = true then ret (vc v) else some (.er .range) := by
  obtain ⟨x', h⟩ := loop_nn (vc v) v none
  have hs : m_need_notes (startR 2 [vc v]) = if v.all okNB = true then ret (.nx [some (.imm (vc v)), x']) else some (.er .range) := h
  unfold F_need_notes fnI
  rw [hs]
  cases v.all okNB <;> rfl
/-- new notes, told of each old one -/
theorem lc_notes {i : Nat} {fa : Rho → M (List PyData)} {f : Rho → M PyData} {ρ : Rho} {v : List Nt} (h : Nt → Nt) (hz : v.length ≤ 16777216) (hj : fa ρ = ret (v.map nt)) (hpl : plainAt ρ i = true)
    (H : ∀ n ∈ v, f ((wipeR ρ [i]).set i (some (.imm (nt n)))) = ret (nt (h n))) : mLc [i] fa (tgN i) mYes f ρ = ret ((v.map h).map nt) := by
  have e := mLc_map (vs := [i]) (fa := fa) (g := tgN i) (f := f) (ρ := ρ) (ds := v.map nt) (fun d => match ntOf d with
    | some n => nt (h n)
    | none => .none) hj (by simp [hpl]) (by rw [List.length_map]; exact hz) fun d hd => by
      obtain ⟨n, hn, rfl⟩ := List.mem_map.mp hd
      exact ⟨_, w_tgN, H n hn⟩
  rw [e, List.map_map, List.map_map]
  rfl
theorem new_notes {i : Nat} {fa : Rho → M (List PyData)} {f : Rho → M PyData} {ρ : Rho} {v : List Nt} (h : Nt → Nt) (hz : v.length ≤ 16777216) (hj : fa ρ = ret (v.map nt)) (hpl : plainAt ρ i = true)
    (H : ∀ n ∈ v, f ((wipeR ρ [i]).set i (some (.imm (nt n)))) = ret (nt (h n))) : mCallI F_need_notes (mLc [i] fa (tgN i) mYes f) ρ = if (v.map h).all okNB = true then ret ((v.map h).map nt) else some (.er .range) := by
  rw [w_mCallI, lc_notes h hz hj hpl H, bnd_ret]
  show bnd (F_need_notes (vc (v.map h))) _ = _
  rw [F_needNotes]
  by_cases c : (v.map h).all okNB = true
  · rw [if_pos c, if_pos c]
    rfl
  · rw [if_neg c, if_neg c]
    rfl
theorem mapE_new {k : PyData → M PyData} (h : List Nt → List Nt) : ∀ (p : List (List Nt)), (∀ v ∈ p, k (vc v) = if (h v).all okNB = true then ret (vc (h v)) else some (.er .range)) → mapE k (p.map vc) = if p.all (fun v => (h v).all okNB) = true then ret ((p.map h).map vc) else some (.er .range)
  | [], _ => rfl
  | v :: p, H => by
    have a := H v List.mem_cons_self
    have ih := mapE_new h p fun w hw => H w (List.mem_cons_of_mem _ hw)
    rw [List.map_cons, List.all_cons]
    unfold mapE
    rw [a, ih]
    cases (h v).all okNB with
    | false => rfl
    | true =>
      cases p.all fun v => (h v).all okNB <;> rfl
/-! ### how many are no notes -/
def wrV (v : List Nt) : Nat := (v.filter fun n => !okNB n).length
theorem wrV_zero {v : List Nt} : wrV v = 0 ↔ v.all okNB = true := by
  unfold wrV
  rw [List.length_eq_zero_iff, List.filter_eq_nil_iff, List.all_eq_true]
  simp
theorem wrong_len {i j : Nat} {ρ : Rho} {v : List Nt} (hz : v.length ≤ 16777216) (hj : mV j ρ = ret (vc v)) (hpl : plainAt ρ i = true) (hi : i < ρ.length) :
    mCall pyLen (mCons (mL (mLc [i] (mLs (mV j)) (tgN i) (mNot (mIsB (mCall F__law_is_note (mCons (mV i) mNil)))) (mV i))) mNil) ρ = ret (.int (wrV v : Nat)) := by
  have e := mLc_fm (vs := [i]) (fa := mLs (mV j)) (g := tgN i) (t := mNot (mIsB (mCall F__law_is_note (mCons (mV i) mNil)))) (f := mV i) (ρ := ρ) (ds := v.map nt) (fun d => !noteD d) (fun d => d) (by rw [w_mLs, hj]; rfl) (by simp [hpl]) (by rw [List.length_map]; exact hz) fun d hd => by
    obtain ⟨n, _, rfl⟩ := List.mem_map.mp hd
    have q : mV i ((wipeR ρ [i]).set i (some (.imm (nt n)))) = ret (nt n) := mV_of (List.getElem?_set_self (by rw [wipeR_length]; exact hi))
    refine ⟨_, w_tgN, ?_, fun _ => q⟩
    rw [w_mNot, w_mIsB, w_mCall, w_mCons, q, bnd_ret, w_mNil, bnd_ret, bnd_ret, F_lnote, bnd_ret, w_asB, bnd_ret, noteD_nt]
  rw [w_mCall, w_mCons, w_mL, e]
  show ret (PyData.int (((((v.map nt).filter fun d => !noteD d).map fun d => d).length : Nat) : Int)) = _
  rw [List.map_id', List.filter_map, List.length_map]
  rfl
/-! ### the same -/
theorem zip_self {d : PyData} {ds : List PyData} (h : lstOf d = some ds) {fa : Rho → M (List PyData)} {ρ : Rho} (hf : fa ρ = ret [d, d]) : mZip fa ρ = ret (ds.map fun e => .tuple [e, e]) := by
  rw [w_mZip, hf, bnd_ret]
  simp only [h]
  congr 1
  apply List.ext_getElem
  · simp
  · intro i h1 h2
    have h3 : i < ds.length := by simpa using h1
    simp [List.getD_eq_getElem?_getD, List.getElem?_eq_getElem h3]
theorem whole3 (n : Nt) (ρ : Rho) (x6 : Nat) (hx : mV 4 ρ = ret (nt n)) (hpl : plainAt ρ x6 = true) (hi : x6 < ρ.length) :
    mCall pyLen (mCons (mL (mLc [x6] (mTs (mV 4)) (tgN x6) (mNot (mIsB (mCall F__law_whole (mCons (mV x6) mNil)))) (mV x6))) mNil) ρ = ret (.int 0) := by
  have e := mLc_fm (vs := [x6]) (fa := mTs (mV 4)) (g := tgN x6) (t := mNot (mIsB (mCall F__law_whole (mCons (mV x6) mNil)))) (f := mV x6) (ρ := ρ) (ds := [.int n.1, .int n.2.1, .int n.2.2]) (fun d => !wholeD d) (fun d => d) (by rw [w_mTs, hx]; rfl) (by simp [hpl]) (by show 3 ≤ _; omega) fun d hd => by
    have q : mV x6 ((wipeR ρ [x6]).set x6 (some (.imm d))) = ret d := mV_of (List.getElem?_set_self (by rw [wipeR_length]; exact hi))
    refine ⟨_, w_tgN, ?_, fun _ => q⟩
    rw [w_mNot, w_mIsB, w_mCall, w_mCons, q, bnd_ret, w_mNil, bnd_ret, bnd_ret, F_lwholeD, bnd_ret, w_asB, bnd_ret]
  rw [w_mCall, w_mCons, w_mL, e]
  rfl
theorem loop_same2 (P x2 x3 : Option Sl) (Q : Option Sl) : ∀ (v : List Nt) (x y : Option Sl), ∃ x' y', loopM (tgT 2 (tgsCons (tgN 4) (tgsCons (tgN 5) tgsNil))) lb__law_same_2 ((v.map nt).map fun e => .tuple [e, e]) [P, Q, x2, x3, x, y, none] = ret (.nx [P, Q, x2, x3, x', y', none])
  | [], x, y => ⟨x, y, rfl⟩
  | n :: r, x, y => by
    obtain ⟨x', y', ih⟩ := loop_same2 P x2 x3 Q r (some (.imm (nt n))) (some (.imm (nt n)))
    refine ⟨x', y', ?_⟩
    have hne := ne_self (Pd.nt n) (by decide)
    have st : lb__law_same_2 [P, Q, x2, x3, some (.imm (nt n)), some (.imm (nt n)), none] = ret (.nx [P, Q, x2, x3, some (.imm (nt n)), some (.imm (nt n)), none]) := by
      unfold lb__law_same_2
      have a : mNot (mIsB (mB (mInst "tuple" (mV 4)))) [P, Q, x2, x3, some (.imm (nt n)), some (.imm (nt n)), none] = ret false := rfl
      have b := whole3 n [P, Q, x2, x3, some (.imm (nt n)), some (.imm (nt n)), none] 6 rfl rfl (by show 6 < 7; decide)
      have c : m2B pyGt (mCall pyLen (mCons (mL (mLc [6] (mTs (mV 4)) (tgN 6) (mNot (mIsB (mCall F__law_whole (mCons (mV 6) mNil)))) (mV 6))) mNil)) (mC (.int 0)) [P, Q, x2, x3, some (.imm (nt n)), some (.imm (nt n)), none] = ret false := by
        rw [w_m2B, b]
        rfl
      have d : m2B pyNe (mV 4) (mV 5) [P, Q, x2, x3, some (.imm (nt n)), some (.imm (nt n)), none] = ret false := hne
      rw [if_f (by rw [w_mOr, a, bnd_ret, if_neg (by decide), w_mOr, c, bnd_ret, if_neg (by decide), d])]
      rfl
    rw [List.map_cons, List.map_cons, loop_step (ρ1 := [P, Q, x2, x3, some (.imm (nt n)), some (.imm (nt n)), none]) rfl st]
    exact ih
theorem loop_same1 (P Q : Option Sl) : ∀ (p : List (List Nt)) (x y z t : Option Sl), (∀ v ∈ p, v.length ≤ 16777216) → ∃ x' y' z' t', loopM (tgT 2 (tgsCons (tgN 2) (tgsCons (tgN 3) tgsNil))) lb__law_same_1 ((p.map vc).map fun e => .tuple [e, e]) [P, Q, x, y, z, t, none] = ret (.nx [P, Q, x', y', z', t', none])
  | [], x, y, z, t, _ => ⟨x, y, z, t, rfl⟩
  | v :: r, x, y, z, t, hz => by
    obtain ⟨z1, t1, h1⟩ := loop_same2 P (some (.imm (vc v))) (some (.imm (vc v))) Q v z t
    obtain ⟨x', y', z', t', ih⟩ := loop_same1 P Q r (some (.imm (vc v))) (some (.imm (vc v))) z1 t1 fun w hw => hz w (List.mem_cons_of_mem _ hw)
    refine ⟨x', y', z', t', ?_⟩
    have st : lb__law_same_1 [P, Q, some (.imm (vc v)), some (.imm (vc v)), z, t, none] = ret (.nx [P, Q, some (.imm (vc v)), some (.imm (vc v)), z1, t1, none]) := by
      unfold lb__law_same_1
      have a : mNot (mIsB (mB (mInst "list" (mV 2)))) [P, Q, some (.imm (vc v)), some (.imm (vc v)), z, t, none] = ret false := rfl
      have b : m2B pyNe (mCall pyLen (mCons (mV 2) mNil)) (mCall pyLen (mCons (mV 3) mNil)) [P, Q, some (.imm (vc v)), some (.imm (vc v)), z, t, none] = ret false := ne_self (Pd.int _) (by decide)
      refine seq_eq (by rw [if_f (by rw [w_mOr, a, bnd_ret, if_neg (by decide), b])]; rfl) ?_
      rw [w_sFor, zip_self (d := vc v) (ds := v.map nt) rfl rfl]
      exact h1
    rw [List.map_cons, List.map_cons, loop_step (ρ1 := [P, Q, some (.imm (vc v)), some (.imm (vc v)), z, t, none]) rfl st]
    exact ih
theorem F_same (p : List (List Nt)) (hz : ∀ v ∈ p, v.length ≤ 16777216) : F__law_same [pc p, pc p] = ret (.bool true) := by
  obtain ⟨x', y', z', t', h⟩ := loop_same1 (some (.imm (pc p))) (some (.imm (pc p))) p none none none none hz
  refine fnD_of ?_
  show m__law_same [some (.imm (pc p)), some (.imm (pc p)), none, none, none, none, none] = _
  unfold m__law_same
  have a : mNot (mIsB (mB (mInst "list" (mV 0)))) [some (.imm (pc p)), some (.imm (pc p)), none, none, none, none, none] = ret false := rfl
  have b : m2B pyNe (mCall pyLen (mCons (mV 0) mNil)) (mCall pyLen (mCons (mV 1) mNil)) [some (.imm (pc p)), some (.imm (pc p)), none, none, none, none, none] = ret false := ne_self (Pd.int _) (by decide)
  refine seq_eq (by rw [if_f (by rw [w_mOr, a, bnd_ret, if_neg (by decide), b])]; rfl) ?_
  refine seq_eq (by
    rw [w_sFor, zip_self (d := pc p) (ds := p.map vc) rfl rfl]
    exact h) rfl
/-! ### its own lists -/
theorem small_all {p : List (List Nt)} (hz : ∀ v ∈ p, v.length ≤ 60) : ((p.map (List.map nt)).all fun r => decide (r.length < 16777216)) = true := by
  rw [List.all_eq_true]
  intro r hr
  obtain ⟨v, hv1, rfl⟩ := List.mem_map.mp hr
  have := hz v hv1
  rw [List.length_map]
  exact decide_eq_true (by omega)
theorem F_own (p q : List (List Nt)) (hp : ∀ v ∈ p, v.length ≤ 60) (hq : ∀ v ∈ q, v.length ≤ 60) : F__law_own [.deep (p.map (List.map nt)), .deep (q.map (List.map nt)), .imm (pc q)] = ret (.bool true) := by
  have e : m__law_own (startS 4 [.deep (p.map (List.map nt)), .deep (q.map (List.map nt)), .imm (pc q)]) = ret (.rt (.bool true)) := by
    show m__law_own [some (.deep (p.map (List.map nt))), some (.deep (q.map (List.map nt))), some (.imm (pc q)), none] = _
    unfold m__law_own
    refine seq_eq (ρ' := [some (.deep ((p.map (List.map nt)).map fun r => r ++ [.tuple [.int 0, .int 0, .int 0]])), some (.deep (q.map (List.map nt))), some (.imm (pc q)), none]) (forApp_of rfl rfl ⟨by decide, by show 3 < 4; decide⟩ (small_all hp)) ?_
    have hne := ne_self (Pd.pc q) (by decide)
    have t : mFrzT 1 (m2B pyNe (mV 1) (mV 2)) [some (.deep ((p.map (List.map nt)).map fun r => r ++ [.tuple [.int 0, .int 0, .int 0]])), some (.deep (q.map (List.map nt))), some (.imm (pc q)), none] = ret false := by
      rw [w_mFrzT, w_frzs, w_frz0d, deep_pc]
      exact hne
    refine seq_eq (by rw [if_f t]; rfl) ?_
    refine seq_eq (ρ' := [some (.deep ((p.map (List.map nt)).map fun r => r ++ [.tuple [.int 0, .int 0, .int 0]])), some (.deep ((q.map (List.map nt)).map fun r => r ++ [.tuple [.int 0, .int 0, .int 0]])), some (.imm (pc q)), none]) (forApp_of rfl rfl ⟨by decide, by show 3 < 4; decide⟩ (small_all hq)) rfl
  unfold F__law_own fnS
  rw [e]
  rfl
/-! ### joined voices -/
theorem len_cat : ∀ {p : List (List Nt)} {c : Nat}, (∀ v ∈ p, v.length ≤ c) → p.flatten.length ≤ p.length * c
  | [], c, _ => by simp
  | v :: p, c, h => by
    have a := h v List.mem_cons_self
    have b := len_cat (p := p) fun w hw => h w (List.mem_cons_of_mem _ hw)
    rw [List.flatten_cons, List.length_append, List.length_cons, Nat.succ_mul]
    omega
theorem ownR_of {is : List Nat} {F : List Sl → M PyData} {t : Rho → M Bool} {ρ : Rho} {ss : List Sl} {b : Bool} (hs : slotsAt ρ is = some ss) (hn : is.Nodup) (hF : F ss = ret (.bool true)) (ht : t (wipeR ρ is) = ret b) : sRetOwn is F t ρ = ret (.rt (.bool b)) := by
  unfold sRetOwn
  rw [hs]
  show (if is.Nodup then bnd (F ss) fun d => match d with
    | .bool true => bnd (t (wipeR ρ is)) fun b => ret (Out.rt (.bool b))
    | .bool false => ret (.rt (.bool false))
    | _ => none else none) = _
  rw [if_pos hn, hF, bnd_ret]
  show bnd (t (wipeR ρ is)) (fun b => ret (Out.rt (.bool b))) = _
  rw [ht]
  rfl
theorem try_ok {i m : Nat} {g : Ex → Option (Option PyData)} {s : Rho → M Out} {ρ : Rho} {o : Out} (h : s ρ = ret o) : sTry i m g s ρ = ret o := by
  unfold sTry
  rw [h]
  rfl
theorem try_er {i m : Nat} {g : Ex → Option (Option PyData)} {s : Rho → M Out} {ρ : Rho} {x : Ex} {z : PyData} (h : s ρ = some (.er x)) (hg : g x = some (some z)) (hc : i < ρ.length ∧ ρ.length ≤ m ∧ plainAt ρ i = true) : sTry i m g s ρ = ret (.rt z) := by
  unfold sTry
  rw [h]
  show (match g x with
    | some o => if i < ρ.length ∧ ρ.length ≤ m ∧ plainAt ρ i = true then (match o with
      | some z => ret (Out.rt z)
      | none => ret (.nx (wipeR ρ [i]))) else none
    | none => none) = _
  rw [hg]
  show (if _ then _ else _) = _
  rw [if_pos hc]
theorem all_wr {p : List (List Nt)} : (p.map wrV).sum = 0 ↔ p.all (fun v => v.all okNB) = true := by
  induction p with
  | nil => simp
  | cons v r ih =>
    rw [List.map_cons, List.sum_cons, List.all_cons, Bool.and_eq_true, ← wrV_zero, ← ih]
    omega
theorem all_map {p : List (List Nt)} {h : List Nt → List Nt} : (p.map h).all (fun v => v.all okNB) = p.all fun v => (h v).all okNB := by
  rw [List.all_map]
  rfl
end VW
/-! More of what the laws of moved pieces share. -/
namespace VW
open PySem PySem.Spec PyProof.Rows L2
theorem intsM : ∀ l : List Int, intsOf (l.map .int) = some l
  | [] => rfl
  | x :: r => by
    show (intsOf (r.map .int)).map (x :: ·) = _
    rw [intsM r]
    rfl
theorem lc_ints {i : Nat} {fa : Rho → M (List PyData)} {f : Rho → M PyData} {ρ : Rho} {v : List Nt} (h : Nt → Int) (hz : v.length ≤ 16777216) (hj : fa ρ = ret (v.map nt)) (hpl : plainAt ρ i = true)
    (H : ∀ n ∈ v, f ((wipeR ρ [i]).set i (some (.imm (nt n)))) = ret (.int (h n))) : mLc [i] fa (tgN i) mYes f ρ = ret ((v.map h).map .int) := by
  have e := mLc_map (vs := [i]) (fa := fa) (g := tgN i) (f := f) (ρ := ρ) (ds := v.map nt) (fun d => match ntOf d with
    | some n => .int (h n)
    | none => .none) hj (by simp [hpl]) (by rw [List.length_map]; exact hz) fun d hd => by
      obtain ⟨n, hn, rfl⟩ := List.mem_map.mp hd
      exact ⟨_, w_tgN, H n hn⟩
  rw [e, List.map_map, List.map_map]
  rfl
theorem max_lc {i : Nat} {fa : Rho → M (List PyData)} {f : Rho → M PyData} {ρ : Rho} {v : List Nt} (h : Nt → Int) (hne : v ≠ []) (hz : v.length ≤ 16777216) (hj : fa ρ = ret (v.map nt)) (hpl : plainAt ρ i = true)
    (H : ∀ n ∈ v, f ((wipeR ρ [i]).set i (some (.imm (nt n)))) = ret (.int (h n))) : ∃ m : Int, mCall pyMax1 (mCons (mL (mLc [i] fa (tgN i) mYes f)) mNil) ρ = ret (.int m) := by
  rw [w_mCall, w_mCons, w_mL, lc_ints h hz hj hpl H]
  cases v with
  | nil => exact absurd rfl hne
  | cons n r =>
    refine ⟨maxL (h n) (r.map h), ?_⟩
    show pyMax1 [.list (((h n) :: r.map h).map .int)] = _
    unfold pyMax1
    dsimp only [w_lst1]
    rw [intsM]
theorem min_lc {i : Nat} {fa : Rho → M (List PyData)} {f : Rho → M PyData} {ρ : Rho} {v : List Nt} (h : Nt → Int) (hne : v ≠ []) (hz : v.length ≤ 16777216) (hj : fa ρ = ret (v.map nt)) (hpl : plainAt ρ i = true)
    (H : ∀ n ∈ v, f ((wipeR ρ [i]).set i (some (.imm (nt n)))) = ret (.int (h n))) : ∃ m : Int, mCall pyMin1 (mCons (mL (mLc [i] fa (tgN i) mYes f)) mNil) ρ = ret (.int m) := by
  rw [w_mCall, w_mCons, w_mL, lc_ints h hz hj hpl H]
  cases v with
  | nil => exact absurd rfl hne
  | cons n r =>
    refine ⟨minL (h n) (r.map h), ?_⟩
    show pyMin1 [.list (((h n) :: r.map h).map .int)] = _
    unfold pyMin1
    dsimp only [w_lst1]
    rw [intsM]
theorem ix_ints {l : List Int} {i : Int} (h : 0 ≤ i ∧ i < l.length) : ∃ x : Int, pyIx (.list (l.map .int)) (.int i) = ret (.int x) := by
  obtain ⟨d, hd, hm⟩ := ix_in (l := l.map .int) (i := i) ⟨h.1, by rw [List.length_map]; exact h.2⟩
  obtain ⟨x, _, rfl⟩ := List.mem_map.mp hm
  exact ⟨x, hd⟩
theorem flat_pc (p : List (List Nt)) : flatL (pc p) = true := by
  unfold flatL
  rw [slOf_pc]
  show ((p.map (List.map nt)).all fun ds => ds.all atom1) = true
  rw [List.all_eq_true]
  intro ds hd
  obtain ⟨v, _, rfl⟩ := List.mem_map.mp hd
  rw [List.all_eq_true]
  intro d hd
  obtain ⟨n, _, rfl⟩ := List.mem_map.mp hd
  rfl
theorem eq_nil (v : List Nt) : pyEq (vc v) (.list []) = ret (decide (v = [])) := by
  unfold pyEq
  rw [if_pos ⟨(Pd.vc v).1, rfl, Nat.le_trans (Nat.min_le_left _ _) (Nat.le_trans (Pd.vc v).2 (by decide))⟩]
  cases v with
  | nil => rfl
  | cons a b => rfl
theorem ne_nil (v : List Nt) : pyNe (vc v) (.list []) = ret (!decide (v = [])) := by
  unfold pyNe
  rw [if_pos ⟨(Pd.vc v).1, rfl, Nat.le_trans (Nat.min_le_left _ _) (Nat.le_trans (Pd.vc v).2 (by decide))⟩]
  cases v with
  | nil => rfl
  | cons a b => rfl
/-- the notes of all voices -/
theorem loop_cat (a b c : Option Sl) (R : Rho) : ∀ (p : List (List Nt)) (acc : List Nt) (x : Option Sl), (acc ++ p.flatten).length ≤ 16777216 → ∃ x', loopM (tgN 4) (sSet 3 (m2 pyAdd (mV 3) (mV 4))) (p.map vc) (a :: b :: c :: some (.imm (vc acc)) :: x :: R) = ret (.nx (a :: b :: c :: some (.imm (vc (acc ++ p.flatten))) :: x' :: R)) ∧ (x' = x ∨ ∃ d, x' = some (.imm d))
  | [], acc, x, _ => ⟨x, by rw [List.flatten_nil, List.append_nil]; rfl, .inl rfl⟩
  | v :: p, acc, x, hz => by
    have e : acc ++ (v :: p).flatten = (acc ++ v) ++ p.flatten := by rw [List.flatten_cons, List.append_assoc]
    rw [e] at hz
    obtain ⟨x', ih, hx⟩ := loop_cat a b c R p (acc ++ v) (some (.imm (vc v))) hz
    refine ⟨x', ?_, hx.elim (fun h => .inr ⟨_, h⟩) .inr⟩
    have hl : (acc.map nt).length + (v.map nt).length ≤ 16777216 := by
      rw [List.length_append, List.length_append] at hz
      rw [List.length_map, List.length_map]
      omega
    have st : sSet 3 (m2 pyAdd (mV 3) (mV 4)) (a :: b :: c :: some (.imm (vc acc)) :: some (.imm (vc v)) :: R) = ret (.nx (a :: b :: c :: some (.imm (vc (acc ++ v))) :: some (.imm (vc v)) :: R)) := by
      refine set_of (d := vc (acc ++ v)) ?_
      simp only [w_m2, w_mVs, w_mV0, bnd_ret]
      show pyAdd (.list (acc.map nt)) (.list (v.map nt)) = _
      rw [w_addl, if_pos hl, ← List.map_append]
      rfl
    rw [List.map_cons, loop_step (ρ1 := a :: b :: c :: some (.imm (vc acc)) :: some (.imm (vc v)) :: R) rfl st, e]
    exact ih
theorem okV_of {v : List Nt} {h : Nt → Nt} (hv : okV v) (ha : (v.map h).all okNB = true) (hm : ∀ m n : Nt, m.1 + m.2.1 ≤ n.1 → (h m).1 + (h m).2.1 ≤ (h n).1) : okV (v.map h) := by
  refine ⟨fun n hn => okNB_iff.mp (List.all_eq_true.mp ha n hn), fun i m n h1 h2 => ?_⟩
  rw [List.getElem?_map] at h1 h2
  cases e1 : v[i]? with
  | none => rw [e1] at h1; cases h1
  | some m0 =>
    cases e2 : v[i + 1]? with
    | none => rw [e2] at h2; cases h2
    | some n0 =>
      rw [e1] at h1
      rw [e2] at h2
      cases h1
      cases h2
      exact hm _ _ (hv.2 i m0 n0 e1 e2)
theorem okNB_all {v : List Nt} (h : okV v) : v.all okNB = true := List.all_eq_true.mpr fun n hn => okNB_iff.mpr (h.1 n hn)
theorem lcR_k {i : Nat} {fa : Rho → M (List PyData)} {f : Rho → M PyData} {ρ : Rho} {ds : List PyData} (hf : fa ρ = ret ds) (hv : plainAt ρ i = true) (hz : ds.length ≤ 16777216) :
    mLcR [i] fa (tgN i) f ρ = mapE (fun d => f ((wipeR ρ [i]).set i (some (.imm d)))) ds :=
  lcR_mapE _ hf (by simp [hv]) hz fun d _ => ⟨_, w_tgN, rfl⟩
/-- new notes in each voice -/
theorem lcR_new {i : Nat} {f : Rho → M PyData} {ρ : Rho} {p : List (List Nt)} (h : List Nt → List Nt) {fa : Rho → M (List PyData)} (hf : fa ρ = ret (p.map vc)) (hv : plainAt ρ i = true) (hz : p.length ≤ 16777216)
    (H : ∀ v ∈ p, f ((wipeR ρ [i]).set i (some (.imm (vc v)))) = if (h v).all okNB = true then ret (vc (h v)) else some (.er .range)) :
    mL (mLcR [i] fa (tgN i) f) ρ = if p.all (fun v => (h v).all okNB) = true then ret (pc (p.map h)) else some (.er .range) := by
  rw [w_mL, lcR_k hf hv (by rw [List.length_map]; exact hz), mapE_new h p H]
  cases p.all fun v => (h v).all okNB <;> rfl
theorem new_row {i : Nat} {fa : Rho → M (List PyData)} {f : Rho → M PyData} {ρ : Rho} {v : List Nt} (h : Nt → Nt) (hz : v.length ≤ 16777216) (hj : fa ρ = ret (v.map nt)) (hpl : plainAt ρ i = true)
    (H : ∀ n ∈ v, f ((wipeR ρ [i]).set i (some (.imm (nt n)))) = ret (nt (h n))) : mL (mCallI F_need_notes (mLc [i] fa (tgN i) mYes f)) ρ = if (v.map h).all okNB = true then ret (vc (v.map h)) else some (.er .range) := by
  rw [w_mL, new_notes h hz hj hpl H]
  cases (v.map h).all okNB <;> rfl
/-- a piece told of each note, none refused -/
theorem lc_piece {i : Nat} {f : Rho → M PyData} {ρ : Rho} {p : List (List Nt)} (h : List Nt → List Nt) {fa : Rho → M (List PyData)} (hf : fa ρ = ret (p.map vc)) (hv : plainAt ρ i = true) (hz : p.length ≤ 16777216)
    (H : ∀ v ∈ p, f ((wipeR ρ [i]).set i (some (.imm (vc v)))) = ret (vc (h v))) :
    mL (mLc [i] fa (tgN i) mYes f) ρ = ret (pc (p.map h)) := by
  have e := mLc_fm (vs := [i]) (fa := fa) (g := tgN i) (t := mYes) (f := f) (ρ := ρ) (ds := p.map vc) (fun _ => true) (fun d => match f ((wipeR ρ [i]).set i (some (.imm d))) with
    | some (.ok z) => z
    | _ => .none) hf (by simp [hv]) (by rw [List.length_map]; exact hz) fun d hd => by
      obtain ⟨v, hv, rfl⟩ := List.mem_map.mp hd
      refine ⟨_, w_tgN, rfl, fun _ => ?_⟩
      rw [H v hv]
      rfl
  rw [w_mL, e, bnd_ret, List.filter_eq_self.mpr fun _ _ => rfl, List.map_map]
  unfold VW.pc
  rw [List.map_map]
  congr 2
  apply List.map_congr_left
  intro v hv
  show (match f ((wipeR ρ [i]).set i (some (.imm (vc v)))) with
    | some (.ok z) => z
    | _ => .none) = vc (h v)
  rw [H v hv]
  rfl
end VW
namespace VW
open PySem PySem.Spec PyProof.Rows L2
def lb_written_1 : Rho → M Out := (sApp 1 (mM pyJoin (mC (.str (PySem.Str.ofString "; "))) (mL (mLc [3] (mLs (mV 2)) (tgN 3) mYes (mM pyJoin (mC (.str (PySem.Str.ofString " "))) (mL (mLc [4] (mTs (mV 3)) (tgN 4) mYes (mCall pyStrI (mCons (mV 4) mNil)))))))))
def m_written : Rho → M Out := (sSeq (sDrop (mCall F_need_pieceX (mCons (mV 0) mNil))) (sSeq (sOwn 1 (mLst mNil)) (sSeq (sFor (tgN 2) (mLs (mV 0)) lb_written_1) (sFrz 1 (sRet (mM pyJoin (mC (.str (PySem.Str.ofString "\n"))) (mV 1)))))))
def F_written : List PyData → M PyData := fnD 5 m_written
def lb_number_of_1 : Rho → M Out := (sIf (m2B pyNotIn (mV 2) (mC (.str (PySem.Str.ofString "0123456789")))) (sRaise .text) sNx)
def m_number_of : Rho → M Out := (sSeq (sSet 1 (mV 0)) (sSeq (sIf (mIsB (mM pyStartswith (mV 0) (mC (.str (PySem.Str.ofString "-"))))) (sSet 1 (mSl (mV 0) (mO (mC (.int 1))) mO0)) sNx) (sSeq (sIf (mOr (m2B pyEq (mV 1) (mC (.str (PySem.Str.ofString "")))) (m2B pyGt (mCall pyLen (mCons (mV 1) mNil)) (mC (.int 6)))) (sRaise .text) sNx) (sSeq (sFor (tgN 2) (mSs (mV 1)) lb_number_of_1) (sRet (mCall pyIntT (mCons (mV 0) mNil)))))))
def F_number_of : List PyData → M PyData := fnD 3 m_number_of
def m_voice_of : Rho → M Out := (sSeq (sIf (m2B pyEq (mV 0) (mC (.str (PySem.Str.ofString "")))) (sRetF (mLst mNil)) sNx) (sRetF (mLcR [1] (mLs (mM pySplit (mV 0) (mC (.str (PySem.Str.ofString "; "))))) (tgN 1) (mCall pyTupleOf (mCons (mL (mLcR [2] (mLs (mM pySplit (mV 1) (mC (.str (PySem.Str.ofString " "))))) (tgN 2) (mCall F_number_of (mCons (mV 2) mNil)))) mNil)))))
def F_voice_of : List PyData → M (List PyData) := fnF 3 m_voice_of
def g_read : Ex → Bool := fun n => match n with | .piece => true | _ => false
def m_read : Rho → M Out := (sSeq (sIf (mNot (mIsB (mB (mInst "str" (mV 0))))) (sRaise .text) sNx) (sSeq (sSetD 1 (mL (mLcR [2] (mLs (mM pySplit (mV 0) (mC (.str (PySem.Str.ofString "\n"))))) (tgN 2) (mL (mCallF F_voice_of (mCons (mV 2) mNil)))))) (sSeq (sTryR .text g_read (sDrop (mFrz 1 (mCall F_need_pieceX (mCons (mV 1) mNil))))) (sSeq (sIf (mFrzT 1 (m2B pyNe (mCall F_written (mCons (mV 1) mNil)) (mV 0))) (sRaise .text) sNx) (sRetDO 1)))))
def F_read : List PyData → M PyData := fnD 3 m_read
def lb__law_pieceT_1 : Rho → M Out := (sSeq (sSet 6 (mL (mLc [9] (mRng3 (mCons (m2 pyAdd (mC (.int 3)) (mV 4)) (mCons (mCall pyMin2 (mCons (mCall pyLen (mCons (mV 0) mNil)) (mCons (mC (.int 33)) mNil))) (mCons (mV 1) mNil)))) (tgN 9) mYes (m2 pyIx (mV 0) (mV 9))))) (sSeq (sSet 7 (m2 pySub (mCall F__law_at (mCons (mV 0) (mCons (mC (.int 2)) mNil))) (m2 pyMul (mC (.int 5)) (mV 4)))) (sSeq (sSet 8 (m2 pyMul (m2 pyMod (m2 pyAdd (m2 pyDiv (mCall F__law_at (mCons (mV 0) (mCons (mC (.int 1)) mNil))) (mC (.int 1600))) (m2 pyMul (mV 4) (m2 pyDiv (mCall F__law_at (mCons (mV 0) (mCons (mC (.int 2)) mNil))) (mC (.int 401))))) (mC (.int 5))) (mV 2))) (sApp 3 (mCall F__law_notes (mCons (mV 6) (mCons (mV 8) (mCons (m2 pySub (m2 pyMod (mV 7) (mC (.int 401))) (mC (.int 200))) (mCons (mV 2) mNil)))))))))
def m__law_pieceT : Rho → M Out := (sSeq (sSet 1 (m2 pyAdd (mC (.int 1)) (m2 pyMod (mCall F__law_at (mCons (mV 0) (mCons (mC (.int 0)) mNil))) (mC (.int 4))))) (sSeq (sIf (m2B pyEq (m2 pyMod (m2 pyDiv (mCall F__law_at (mCons (mV 0) (mCons (mC (.int 0)) mNil))) (mC (.int 4))) (mC (.int 8))) (mC (.int 1))) (sSet 1 (m2 pyAdd (mC (.int 5)) (m2 pyMod (m2 pyDiv (mCall F__law_at (mCons (mV 0) (mCons (mC (.int 0)) mNil))) (mC (.int 32))) (mC (.int 2))))) sNx) (sSeq (sSet 2 (mC (.int 1))) (sSeq (sIf (m2B pyEq (m2 pyMod (mCall F__law_at (mCons (mV 0) (mCons (mC (.int 1)) mNil))) (mC (.int 8))) (mC (.int 1))) (sSet 2 (m2 pyAdd (mC (.int 1)) (m2 pyMod (m2 pyDiv (mCall F__law_at (mCons (mV 0) (mCons (mC (.int 1)) mNil))) (mC (.int 8))) (mC (.int 200))))) sNx) (sSeq (sOwn 3 (mLst mNil)) (sSeq (sFor (tgN 4) (mRng1 (mCons (mV 1) mNil)) lb__law_pieceT_1) (sFrz 3 (sSeq (sSet 5 (m2 pyMod (m2 pyDiv (mCall F__law_at (mCons (mV 0) (mCons (mC (.int 2)) mNil))) (mC (.int 2005))) (m2 pyMul (mC (.int 2)) (mV 1)))) (sRet (mL (mLc [4, 10] (mEnum (mCons (mV 3) mNil)) (tgT 2 (tgsCons (tgN 4) (tgsCons (tgN 10) tgsNil))) mYes (m2 pyIx (mL (mLst (mCons (mV 10) (mCons (mL (mLst mNil)) mNil)))) (mCall pyInt (mCons (mB (m2B pyEq (mV 4) (mV 5))) mNil))))))))))))))
def F__law_pieceT : List PyData → M PyData := fnD 11 m__law_pieceT
def m__law_numberT : Rho → M Out := (sSeq (sSet 1 (mV 0)) (sSeq (sIf (m2B pyEq (mSl (mV 0) mO0 (mO (mC (.int 1)))) (mC (.str (PySem.Str.ofString "-")))) (sSet 1 (mSl (mV 0) (mO (mC (.int 1))) mO0)) sNx) (sSeq (sIf (mOr (m2B pyEq (mV 1) (mC (.str (PySem.Str.ofString "")))) (mOr (m2B pyGt (mCall pyLen (mCons (mV 1) mNil)) (mC (.int 6))) (m2B pyGt (mCall pyLen (mCons (mL (mLc [2] (mSs (mV 1)) (tgN 2) (m2B pyNotIn (mV 2) (mC (.str (PySem.Str.ofString "0123456789")))) (mV 2))) mNil)) (mC (.int 0))))) (sRet (mC .none)) sNx) (sSeq (sIf (mAnd (m2B pyEq (m2 pyIx (mV 1) (mC (.int 0))) (mC (.str (PySem.Str.ofString "0")))) (mOr (m2B pyGt (mCall pyLen (mCons (mV 1) mNil)) (mC (.int 1))) (m2B pyNe (mV 0) (mC (.str (PySem.Str.ofString "0")))))) (sRet (mC .none)) sNx) (sRet (mCall pyIntT (mCons (mV 0) mNil)))))))
def F__law_numberT : List PyData → M PyData := fnD 3 m__law_numberT
def m__law_noteT : Rho → M Out := (sSeq (sSet 1 (mL (mLc [3] (mLs (mM pySplit (mV 0) (mC (.str (PySem.Str.ofString " "))))) (tgN 3) mYes (mCall F__law_numberT (mCons (mV 3) mNil))))) (sSeq (sIf (mOr (m2B pyNe (mCall pyLen (mCons (mV 1) mNil)) (mC (.int 3))) (m2B pyIn (mC .none) (mV 1))) (sRet (mC .none)) sNx) (sSeq (sSet 2 (m2 pyIx (mV 1) (mC (.int 0)))) (sSeq (sIf (mOr (m2B pyLt (mV 2) (mC (.int 0))) (mOr (m2B pyLt (m2 pyIx (mV 1) (mC (.int 1))) (mC (.int 1))) (m2B pyGt (m2 pyAdd (mV 2) (m2 pyIx (mV 1) (mC (.int 1)))) (mC (.int 100000))))) (sRet (mC .none)) sNx) (sSeq (sIf (mNot (mChain pyLe pyLe (m1 pyNeg (mC (.int 200))) (m2 pyIx (mV 1) (mC (.int 2))) (mC (.int 200)))) (sRet (mC .none)) sNx) (sRet (mTup (mCons (mV 2) (mCons (m2 pyIx (mV 1) (mC (.int 1))) (mCons (m2 pyIx (mV 1) (mC (.int 2))) mNil))))))))))
def F__law_noteT : List PyData → M PyData := fnD 4 m__law_noteT
def lb__law_piece_of_2 : Rho → M Out := (sIf (m2B pyGt (m2 pyAdd (m2 pyIx (m2 pyIx (mV 3) (m2 pySub (mV 4) (mC (.int 1)))) (mC (.int 0))) (m2 pyIx (m2 pyIx (mV 3) (m2 pySub (mV 4) (mC (.int 1)))) (mC (.int 1)))) (m2 pyIx (m2 pyIx (mV 3) (mV 4)) (mC (.int 0)))) (sRet (mC .none)) sNx)
def lb__law_piece_of_1 : Rho → M Out := (sSeq (sSet 3 (mL (mLst mNil))) (sSeq (sIf (m2B pyNe (mV 2) (mC (.str (PySem.Str.ofString "")))) (sSet 3 (mL (mLc [5] (mLs (mM pySplit (mV 2) (mC (.str (PySem.Str.ofString "; "))))) (tgN 5) mYes (mCall F__law_noteT (mCons (mV 5) mNil))))) sNx) (sSeq (sIf (m2B pyIn (mC .none) (mV 3)) (sRet (mC .none)) sNx) (sSeq (sFor (tgN 4) (mRng2 (mCons (mC (.int 1)) (mCons (mCall pyLen (mCons (mV 3) mNil)) mNil))) lb__law_piece_of_2) (sApp 1 (mV 3))))))
def m__law_piece_of : Rho → M Out := (sSeq (sOwn 1 (mLst mNil)) (sSeq (sFor (tgN 2) (mLs (mM pySplit (mV 0) (mC (.str (PySem.Str.ofString "\n"))))) lb__law_piece_of_1) (sFrz 1 (sSeq (sIf (m2B pyGt (mCall pyLen (mCons (mV 1) mNil)) (mC (.int 6))) (sRet (mC .none)) sNx) (sRet (mV 1))))))
def F__law_piece_of : List PyData → M PyData := fnD 6 m__law_piece_of
def lb__law_shown_1 : Rho → M Out := (sSeq (sSet 3 (mL (mLc [4] (mLs (mV 2)) (tgN 4) mYes (mM pyJoin (mC (.str (PySem.Str.ofString " "))) (mL (mLc [5] (mTs (mV 4)) (tgN 5) mYes (mCall pyStrI (mCons (mV 5) mNil)))))))) (sApp 1 (mM pyJoin (mC (.str (PySem.Str.ofString "; "))) (mV 3))))
def m__law_shown : Rho → M Out := (sSeq (sOwn 1 (mLst mNil)) (sSeq (sFor (tgN 2) (mLs (mV 0)) lb__law_shown_1) (sFrz 1 (sRet (mM pyJoin (mC (.str (PySem.Str.ofString "\n"))) (mV 1))))))
def F__law_shown : List PyData → M PyData := fnD 6 m__law_shown
def m__law_bent : Rho → M Out := (sSeq (sSet 3 (m2 pyMod (mV 2) (m2 pyAdd (mCall pyLen (mCons (mV 0) mNil)) (mC (.int 1))))) (sSeq (sSet 4 (m2 pyDiv (mV 2) (m2 pyAdd (mCall pyLen (mCons (mV 0) mNil)) (mC (.int 1))))) (sSeq (sSet 5 (mC (.str (PySem.Str.ofString " !\"#$&'()*+,-./0123456789:;<=>?@ABCDEFGHIJKLMNOPQRSTUVWXYZ[\\]^_`")))) (sSeq (sSet 5 (m2 pyAdd (mV 5) (mC (.str (PySem.Str.ofString "abcdefghijklmnopqrstuvwxyz{|}~\n\t"))))) (sSeq (sSet 6 (m2 pyIx (mV 5) (m2 pyMod (m2 pyDiv (mV 4) (mC (.int 2))) (mC (.int 96))))) (sSeq (sIf (m2B pyEq (m2 pyMod (mV 4) (mC (.int 2))) (mC (.int 0))) (sSet 6 (m2 pyIx (mC (.str (PySem.Str.ofString "0123456789 ;\n-"))) (m2 pyMod (m2 pyDiv (mV 4) (mC (.int 2))) (mC (.int 14))))) sNx) (sSeq (sSet 7 (mL (mLst (mCons (mC (.str (PySem.Str.ofString "0 1"))) (mCons (mC (.str (PySem.Str.ofString "0 1 0 0"))) (mCons (mC (.str (PySem.Str.ofString "0 1 0;"))) (mCons (mC (.str (PySem.Str.ofString "0 1 0; "))) (mCons (mC (.str (PySem.Str.ofString "; 0 1 0"))) (mCons (mC (.str (PySem.Str.ofString "0 1 0;0 1 0"))) (mCons (mC (.str (PySem.Str.ofString " 0 1 0"))) (mCons (mC (.str (PySem.Str.ofString "0 1 0 "))) mNil))))))))))) (sSeq (sSet 7 (m2 pyAdd (mV 7) (mL (mLst (mCons (mC (.str (PySem.Str.ofString " "))) (mCons (mC (.str (PySem.Str.ofString "0 1 0\n "))) (mCons (mC (.str (PySem.Str.ofString "1_0 1 0"))) (mCons (mC (.str (PySem.Str.ofString "0 1 0 |; 2 1 0"))) (mCons (mC (.str (PySem.Str.ofString "0 1 0|"))) (mCons (mC (.str (PySem.Str.ofString "0 1 0\n"))) mNil)))))))))) (sSeq (sSet 7 (m2 pyAdd (mV 7) (mL (mLst (mCons (mC (.str (PySem.Str.ofString "00 1 0"))) (mCons (mC (.str (PySem.Str.ofString "0 1 -0"))) (mCons (mC (.str (PySem.Str.ofString "0 0 0"))) (mCons (mC (.str (PySem.Str.ofString "0 1 201"))) (mCons (mC (.str (PySem.Str.ofString "100000 1 0"))) (mCons (mC (.str (PySem.Str.ofString "0 2 0; 1 1 0"))) (mCons (mC (.str (PySem.Str.ofString "\n\n\n\n\n\n"))) mNil))))))))))) (sSeq (sIf (m2B pyEq (mV 1) (mC (.int 1))) (sRet (m2 pyAdd (m2 pyAdd (mSl (mV 0) mO0 (mO (mV 3))) (mV 6)) (mSl (mV 0) (mO (mV 3)) mO0))) sNx) (sSeq (sIf (m2B pyEq (mV 1) (mC (.int 2))) (sRet (m2 pyAdd (mSl (mV 0) mO0 (mO (mV 3))) (mSl (mV 0) (mO (m2 pyAdd (mV 3) (mC (.int 1)))) mO0))) sNx) (sSeq (sIf (m2B pyEq (mV 1) (mC (.int 3))) (sRet (m2 pyAdd (m2 pyAdd (mSl (mV 0) mO0 (mO (mV 3))) (mV 6)) (mSl (mV 0) (mO (m2 pyAdd (mV 3) (mC (.int 1)))) mO0))) sNx) (sSeq (sIf (m2B pyEq (mV 1) (mC (.int 4))) (sRet (m2 pyIx (mV 7) (m2 pyMod (mV 2) (mC (.int 21))))) sNx) (sRet (mV 0)))))))))))))))
def F__law_bent : List PyData → M PyData := fnD 8 m__law_bent
def g__law_tried : Ex → Option (Option PyData) := fun n => match n with | .text => some (some (.str (PySem.Str.ofString "refused"))) | _ => none
def m__law_tried : Rho → M Out := (sSeq (sTry 1 2 g__law_tried (sRet (mCall F_read (mCons (mV 0) mNil)))) (sRetI (mC (.str (PySem.Str.ofString "otherwise")))))
def F__law_tried : List PyData → M PyData := fnD 2 m__law_tried
def lb_law_2 : Rho → M Out := (sIf (mOr (mNot (mIsB (mB (mInst "tuple" (mV 9))))) (m2B pyGt (mCall pyLen (mCons (mL (mLc [10] (mTs (mV 9)) (tgN 10) (mNot (mIsB (mCall F__law_whole (mCons (mV 10) mNil)))) (mV 10))) mNil)) (mC (.int 0)))) (sRet (mC (.bool false))) sNx)
def lb_law_1 : Rho → M Out := (sSeq (sIf (mNot (mIsB (mB (mInst "list" (mV 8))))) (sRet (mC (.bool false))) sNx) (sFor (tgN 9) (mLs (mV 8)) lb_law_2))
def m_law : Rho → M Out := (sSeq (sSet 1 (mCall F__law_pieceT (mCons (mV 0) mNil))) (sSeq (sSet 2 (mL (mLc [8] (mLs (mV 1)) (tgN 8) mYes (mL (mCallF pyListOf (mCons (mV 8) mNil)))))) (sSeq (sSet 3 (mCall F_written (mCons (mV 2) mNil))) (sSeq (sIf (mOr (mNot (mIsB (mB (mInst "str" (mV 3))))) (mOr (m2B pyNe (mV 3) (mCall F__law_shown (mCons (mV 1) mNil))) (m2B pyNe (mV 2) (mV 1)))) (sRet (mC (.bool false))) sNx) (sSeq (sSet 4 (m2 pyMod (m2 pyAdd (m2 pyAdd (m2 pyMul (mCall F__law_at (mCons (mV 0) (mCons (mC (.int 0)) mNil))) (mC (.int 48271))) (m2 pyMul (mCall F__law_at (mCons (mV 0) (mCons (mC (.int 1)) mNil))) (mC (.int 16807)))) (mCall F__law_at (mCons (mV 0) (mCons (mC (.int 2)) mNil)))) (mC (.int 1000003)))) (sSeq (sIf (m2B pyEq (m2 pyMod (mV 4) (mC (.int 27))) (mC (.int 26))) (sRet (mB (m2B pyEq (mCall F__law_tried (mCons (m2 pyIx (mL (mLst (mCons (mC .none) (mCons (mC (.int 7)) (mCons (mC (.bool true)) (mCons (mL (mLst (mCons (mC (.str (PySem.Str.ofString "0 1 0"))) mNil))) (mCons (mTup (mCons (mC (.str (PySem.Str.ofString "0 1 0"))) mNil)) mNil))))))) (m2 pyMod (m2 pyDiv (mV 4) (mC (.int 27))) (mC (.int 5)))) mNil)) (mC (.str (PySem.Str.ofString "refused")))))) sNx) (sSeq (sSet 5 (mCall F__law_bent (mCons (mV 3) (mCons (m2 pyIx (mL (mLst (mCons (mC (.int 0)) (mCons (mC (.int 0)) (mCons (mC (.int 1)) (mCons (mC (.int 1)) (mCons (mC (.int 2)) (mCons (mC (.int 3)) (mCons (mC (.int 3)) (mCons (mC (.int 4)) (mCons (mC (.int 4)) mNil))))))))))) (m2 pyMod (mV 4) (mC (.int 9)))) (mCons (m2 pyDiv (mV 4) (mC (.int 9))) mNil))))) (sSeq (sSet 6 (mCall F__law_piece_of (mCons (mV 5) mNil))) (sSeq (sSetD 7 (mCall F__law_tried (mCons (mV 5) mNil))) (sSeq (sIf (m2B pyIs (mV 6) (mC .none)) (sRet (mFrz 7 (mB (mAnd (mInst "str" (mV 7)) (m2B pyEq (mV 7) (mC (.str (PySem.Str.ofString "refused")))))))) sNx) (sSeq (sIf (mFrzT 7 (mOr (mNot (mIsB (mB (mInst "list" (mV 7))))) (m2B pyNe (mV 7) (mV 6)))) (sRet (mC (.bool false))) sNx) (sSeq (sHold ([8] ++ (([] ++ []) ++ ([9] ++ ([] ++ [])))) (sFor (tgN 8) (mLs (mV 7)) lb_law_1)) (sSeq (sAppR 7 (mC (.int 0)) (mTup (mCons (mC (.int 0)) (mCons (mC (.int 1)) (mCons (mC (.int 0)) mNil))))) (sRet (mB (m2B pyEq (mCall F__law_tried (mCons (mV 5) mNil)) (mV 6)))))))))))))))))
def F_law : List PyData → M PyData := fnD 11 m_law
end VW
namespace VW
open PySem PySem.Spec PyProof.Rows L2
open PySem.NumText (AllDigits digitsVal digitsVal_snoc)
/-! ### numbers written -/
abbrev cs (w : Str) : List Nat := w.cps.toList
theorem cs_inj {a b : Str} (h : cs a = cs b) : a = b := Str.ext' (Array.toList_inj.mp h)
theorem cs_len (a : Str) : (cs a).length = a.length := Array.length_toList
def strI (i : Int) : Str := PySem.Str.ofString (toString i)
def reprN (m : Nat) : List Nat := (Nat.toDigits 10 m).map Char.toNat
theorem reprN_small {m : Nat} (h : m < 10) : reprN m = [48 + m] := by
  unfold reprN
  rw [Nat.toDigits_of_lt_base h]
  have : ∀ d : Nat, d < 10 → [(Nat.digitChar d).toNat] = [48 + d] := by decide
  exact this m h
theorem reprN_step {m : Nat} (h : ¬ m < 10) : reprN m = reprN (m / 10) ++ [48 + m % 10] := by
  have hm : m % 10 < 10 := Nat.mod_lt m (by decide)
  have t : Nat.toDigits 10 (m / 10) ++ Nat.toDigits 10 (m % 10) = Nat.toDigits 10 (10 * (m / 10) + m % 10) := Nat.toDigits_append_toDigits (by decide) (by omega) hm
  rw [Nat.div_add_mod] at t
  have e := reprN_small hm
  unfold reprN at e ⊢
  rw [← t, List.map_append, e]
theorem strI_nat (m : Nat) : cs (strI (m : Int)) = reprN m := PySem.W.KIN.signs_num m
theorem strI_neg {m : Nat} (h : m ≠ 0) : cs (strI (-(m : Int))) = 45 :: reprN m := by
  obtain ⟨k, rfl⟩ := Nat.exists_eq_succ_of_ne_zero h
  have e : -((k.succ : Nat) : Int) = Int.negSucc k := rfl
  rw [e]
  show (PySem.Str.ofString (toString (Int.negSucc k))).cps.toList = _
  rw [PySem.Str.ofString_eq_toList]
  show (("-" ++ Nat.repr (k + 1)).toList.map Char.toNat) = _
  rw [String.toList_append, List.map_append, Nat.toList_repr]
  rfl
def canonL (l : List Nat) : Bool := match l with
  | 48 :: _ :: _ => false
  | _ => true
theorem canonL_init {l : List Nat} {c : Nat} (h : canonL (l ++ [c]) = true) (hl : l ≠ []) : canonL l = true ∧ l ≠ [48] := by
  cases l with
  | nil => exact absurd rfl hl
  | cons a r =>
    constructor
    · cases r with
      | nil =>
        unfold canonL
        split
        · rename_i e
          cases e
        · rfl
      | cons b r =>
        unfold canonL at h ⊢
        split at h
        · cases h
        · rename_i hn
          split
          · rename_i x y e
            injection e with e1 e2
            subst e1
            exact absurd rfl (hn b (r ++ [c]))
          · rfl
    · rintro e
      injection e with e1 e2
      subst e1 e2
      exact absurd h (by simp [canonL])
theorem snoc_ind {P : List Nat → Prop} (nil : P []) (append_singleton : ∀ r c, P r → P (r ++ [c])) (l : List Nat) : P l := by
  have h : ∀ l : List Nat, P l.reverse := fun l => by
    induction l with
    | nil => exact nil
    | cons c r ih =>
      rw [List.reverse_cons]
      exact append_singleton _ _ ih
  have := h l.reverse
  rw [List.reverse_reverse] at this
  exact this
theorem val_pos : ∀ {l : List Nat}, AllDigits l → canonL l = true → l ≠ [] → l ≠ [48] → 1 ≤ digitsVal l := by
  intro l
  induction l using snoc_ind with
  | nil => intro _ _ h _; exact absurd rfl h
  | append_singleton r c ih =>
    intro hd hc _ h48
    rw [digitsVal_snoc]
    have hcd := hd c (List.mem_append_right _ (List.mem_singleton.mpr rfl))
    by_cases hr : r = []
    · subst hr
      have : c ≠ 48 := fun e => h48 (by rw [e]; rfl)
      show 1 ≤ digitsVal [] * 10 + (c - 48)
      omega
    · obtain ⟨c1, c2⟩ := canonL_init hc hr
      have := ih (fun x hx => hd x (List.mem_append_left _ hx)) c1 hr c2
      omega
theorem repr_canon : ∀ {l : List Nat}, AllDigits l → canonL l = true → l ≠ [] → reprN (digitsVal l) = l := by
  intro l
  induction l using snoc_ind with
  | nil => intro _ _ h; exact absurd rfl h
  | append_singleton r c ih =>
    intro hd hc _
    rw [digitsVal_snoc]
    have hcd := hd c (List.mem_append_right _ (List.mem_singleton.mpr rfl))
    by_cases hr : r = []
    · subst hr
      have e : digitsVal [] * 10 + (c - 48) = c - 48 := by show 0 * 10 + _ = _; omega
      rw [e, reprN_small (by omega)]
      show [48 + (c - 48)] = [c]
      congr 1
      omega
    · obtain ⟨c1, c2⟩ := canonL_init hc hr
      have hdr : AllDigits r := fun x hx => hd x (List.mem_append_left _ hx)
      have hp := val_pos hdr c1 hr c2
      have ih' := ih hdr c1 hr
      rw [reprN_step (by omega), show (digitsVal r * 10 + (c - 48)) / 10 = digitsVal r by omega, show (digitsVal r * 10 + (c - 48)) % 10 = c - 48 by omega, ih']
      congr 2
      omega
theorem repr_len : ∀ {l : List Nat}, AllDigits l → l ≠ [] → (reprN (digitsVal l)).length ≤ l.length := by
  intro l
  induction l using snoc_ind with
  | nil => intro _ h; exact absurd rfl h
  | append_singleton r c ih =>
    intro hd _
    rw [digitsVal_snoc, List.length_append]
    have hcd := hd c (List.mem_append_right _ (List.mem_singleton.mpr rfl))
    by_cases hs : digitsVal r * 10 + (c - 48) < 10
    · rw [reprN_small hs]
      show 1 ≤ r.length + 1
      omega
    · have hr : r ≠ [] := fun e => by
        subst e
        apply hs
        show 0 * 10 + (c - 48) < 10
        omega
      have := ih (fun x hx => hd x (List.mem_append_left _ hx)) hr
      rw [reprN_step hs, show (digitsVal r * 10 + (c - 48)) / 10 = digitsVal r by omega, List.length_append]
      show _ + 1 ≤ _ + 1
      omega
theorem val_zero (l : List Nat) : digitsVal (48 :: l) = digitsVal l := rfl
/-- a leading naught: shorter -/
theorem repr_short {l : List Nat} (hd : AllDigits l) (hc : canonL l = false) : (reprN (digitsVal l)).length < l.length := by
  unfold canonL at hc
  split at hc
  · rename_i a r
    have h1 : AllDigits (a :: r) := fun x hx => hd x (List.mem_cons_of_mem _ hx)
    have := repr_len h1 (by simp)
    rw [val_zero]
    rw [List.length_cons]
    omega
  · cases hc
theorem reprN_bound : ∀ (k : Nat) (m : Nat), m < 10 ^ (k + 1) → (reprN m).length ≤ k + 1
  | 0, m, h => by
    rw [reprN_small (by simpa using h)]
    exact Nat.le_refl _
  | k + 1, m, h => by
    by_cases hs : m < 10
    · rw [reprN_small hs]
      show 1 ≤ _
      omega
    · rw [reprN_step hs, List.length_append]
      have := reprN_bound k (m / 10) (by
        rw [Nat.pow_succ] at h
        omega)
      show _ + 1 ≤ _ + 1
      omega
theorem strI_len {i : Int} (h : -1000000 < i ∧ i < 1000000) : (strI i).length ≤ 7 := by
  rw [← cs_len]
  by_cases hi : 0 ≤ i
  · obtain ⟨m, rfl⟩ := Int.eq_ofNat_of_zero_le hi
    rw [strI_nat]
    have := reprN_bound 5 m (by show m < 1000000; omega)
    omega
  · obtain ⟨m, rfl⟩ : ∃ m : Nat, i = -(m : Int) := ⟨i.natAbs, by omega⟩
    rw [strI_neg (by omega)]
    have := reprN_bound 5 m (by show m < 1000000; omega)
    show _ + 1 ≤ 7
    omega
theorem log_ok {i : Int} (h : -1000000 < i ∧ i < 1000000) : i.natAbs.log2 < 1920 := by
  by_cases h0 : i.natAbs = 0
  · rw [h0]
    decide
  · rw [Nat.log2_lt h0]
    have h20 : i.natAbs < 2 ^ 20 := by omega
    exact Nat.lt_of_lt_of_le h20 (Nat.pow_le_pow_right (by decide) (by omega))
theorem val_bound : ∀ {l : List Nat}, AllDigits l → digitsVal l < 10 ^ l.length := by
  intro l
  induction l using snoc_ind with
  | nil => intro _; decide
  | append_singleton r c ih =>
    intro hd
    have hcd := hd c (List.mem_append_right _ (List.mem_singleton.mpr rfl))
    have := ih fun x hx => hd x (List.mem_append_left _ hx)
    rw [digitsVal_snoc, List.length_append, List.length_singleton, Nat.pow_succ]
    omega
/-! ### words -/
def isDig (c : Nat) : Bool := decide (48 ≤ c) && decide (c ≤ 57)
/-- the figures of a word -/
def figsL (l : List Nat) : List Nat := match l with
  | 45 :: r => r
  | l => l
def okW (w : Str) : Bool := decide (figsL (cs w) ≠ []) && (decide ((figsL (cs w)).length ≤ 6) && (figsL (cs w)).all isDig)
def val (w : Str) : Int := (PySem.intText? w).getD 0
def canon (w : Str) : Bool := match cs w with
  | 45 :: 48 :: _ => false
  | l => canonL l
theorem okW_inv {w : Str} (h : okW w = true) : (AllDigits (cs w) ∧ cs w ≠ [] ∧ figsL (cs w) = cs w ∧ (cs w).length ≤ 6) ∨ ∃ l, cs w = 45 :: l ∧ AllDigits l ∧ l ≠ [] ∧ figsL (cs w) = l ∧ l.length ≤ 6 := by
  unfold okW at h
  rw [Bool.and_eq_true, Bool.and_eq_true, decide_eq_true_iff, decide_eq_true_iff, List.all_eq_true] at h
  obtain ⟨h1, h2, h3⟩ := h
  have hd : AllDigits (figsL (cs w)) := fun c hc => by
    have := h3 c hc
    unfold isDig at this
    rw [Bool.and_eq_true, decide_eq_true_iff, decide_eq_true_iff] at this
    exact this
  generalize cs w = l at *
  by_cases hx : ∃ r, l = 45 :: r
  · obtain ⟨r, rfl⟩ := hx
    exact .inr ⟨r, rfl, hd, h1, rfl, h2⟩
  · have e : figsL l = l := by
      unfold figsL
      split
      · rename_i r
        exact absurd ⟨r, rfl⟩ hx
      · rfl
    rw [e] at hd h1 h2
    exact .inl ⟨hd, h1, e, h2⟩
theorem okW_read {w : Str} (h : okW w = true) : PySem.intText? w = some (val w) ∧ w.length ≤ 7 ∧ -1000000 < val w ∧ val w < 1000000 := by
  have hl := cs_len w
  rcases okW_inv h with ⟨h1, h2, _, h4⟩ | ⟨l, e, h1, h2, _, h4⟩
  · have r := PySem.intText_digits h1 h2 (by omega)
    have v : val w = ((digitsVal (cs w) : Nat) : Int) := by unfold val; rw [r]; rfl
    have b := val_bound h1
    have b2 : 10 ^ (cs w).length ≤ 10 ^ 6 := Nat.pow_le_pow_right (by decide) h4
    rw [v]
    refine ⟨r, by omega, by omega, ?_⟩
    have : (10 : Nat) ^ 6 = 1000000 := by decide
    omega
  · have r := PySem.intText_neg e h1 h2 (by rw [e] at hl; simp at hl; omega)
    have v : val w = -((digitsVal l : Nat) : Int) := by unfold val; rw [r]; rfl
    have b := val_bound h1
    have b2 : 10 ^ l.length ≤ 10 ^ 6 := Nat.pow_le_pow_right (by decide) h4
    have : (10 : Nat) ^ 6 = 1000000 := by decide
    rw [v]
    refine ⟨r, by rw [e] at hl; simp at hl; omega, by omega, by omega⟩
/-- the word of a word's number: the word itself, or shorter -/
theorem word_back {w : Str} (h : okW w = true) : (canon w = true → strI (val w) = w) ∧ (canon w = false → (strI (val w)).length < w.length) := by
  have hl := cs_len w
  rcases okW_inv h with ⟨h1, h2, h3, h4⟩ | ⟨l, e, h1, h2, h3, h4⟩
  · have r := PySem.intText_digits h1 h2 (by omega)
    have v : val w = ((digitsVal (cs w) : Nat) : Int) := by unfold val; rw [r]; rfl
    have ec : canon w = canonL (cs w) := by
      unfold canon
      split
      · rename_i q
        have := h1 45 (by rw [q]; exact List.mem_cons_self)
        omega
      · rfl
    rw [ec]
    constructor
    · intro hc
      apply cs_inj
      rw [v, strI_nat, repr_canon h1 hc h2]
    · intro hc
      rw [← cs_len, ← cs_len, v, strI_nat]
      exact repr_short h1 hc
  · have r := PySem.intText_neg e h1 h2 (by rw [e] at hl; simp at hl; omega)
    have v : val w = -((digitsVal l : Nat) : Int) := by unfold val; rw [r]; rfl
    have hlen : w.length = l.length + 1 := by rw [← hl, e]; rfl
    by_cases hh : ∃ t, l = 48 :: t
    · obtain ⟨t, rfl⟩ := hh
      have ec : canon w = false := by
        unfold canon
        rw [e]
        rfl
      rw [ec]
      refine ⟨fun z => (nomatch z), fun _ => ?_⟩
      by_cases hz : digitsVal (48 :: t) = 0
      · rw [v, hz, hlen]
        show (strI 0).length < _
        have : (strI 0).length = 1 := by decide
        rw [this]
        simp
      · rw [← cs_len, v, strI_neg hz, hlen]
        cases t with
        | nil => exact absurd rfl hz
        | cons a t =>
          have := repr_short h1 (show canonL (48 :: a :: t) = false from rfl)
          simp at this ⊢
          omega
    · have ecl : canonL l = true := by
        unfold canonL
        split
        · rename_i a t
          exact absurd ⟨_, rfl⟩ hh
        · rfl
      have ec : canon w = true := by
        unfold canon
        rw [e]
        split
        · rename_i t q
          injection q with _ q
          exact absurd ⟨t, q⟩ hh
        · rfl
      rw [ec]
      refine ⟨fun _ => ?_, fun z => (nomatch z)⟩
      have hp := val_pos h1 ecl h2 fun z => hh ⟨[], z⟩
      apply cs_inj
      rw [v, strI_neg (by omega), repr_canon h1 ecl h2, e]
end VW
namespace VW
open PySem PySem.Spec PyProof.Rows L2
theorem call_of {F : List PyData → M PyData} {fa : Rho → M (List PyData)} {ρ : Rho} {ds : List PyData} (h : fa ρ = ret ds) : mCall F fa ρ = F ds := by
  rw [w_mCall, h]
  rfl
/-! ### joined texts -/
theorem jn (sep : Str) (l : List Str) : Txt.join sep l = Str.join sep l := StrLaws.glued_eq_join sep l
theorem jn_len (sep : Str) : ∀ l : List Str, (Str.join sep l).length = (l.map (·.length)).sum + (l.length - 1) * sep.length
  | [] => by
    show 0 = _
    simp
  | [x] => by
    show x.length = _
    simp
  | x :: y :: r => by
    have h := jn_len sep (y :: r)
    show (x ++ sep ++ Str.join sep (y :: r)).length = _
    rw [Str.length_append, Str.length_append, h]
    simp only [List.map_cons, List.sum_cons, List.length_cons, Nat.add_sub_cancel, Nat.succ_mul]
    omega
theorem lvl_sum (f : Str → Str) (c : Str → Bool) : ∀ l : List Str, (∀ x ∈ l, (c x = true → f x = x) ∧ (c x = false → (f x).length < x.length)) →
    ((l.map f).map (·.length)).sum ≤ (l.map (·.length)).sum ∧ (l.all c = false → ((l.map f).map (·.length)).sum < (l.map (·.length)).sum)
  | [], _ => ⟨Nat.le_refl _, fun h => by cases h⟩
  | x :: l, h => by
    have ih := lvl_sum f c l fun y hy => h y (List.mem_cons_of_mem _ hy)
    have hx := h x List.mem_cons_self
    simp only [List.map_cons, List.sum_cons, List.all_cons]
    cases hc : c x with
    | true =>
      rw [hx.1 hc]
      refine ⟨by omega, fun ha => ?_⟩
      rw [Bool.true_and] at ha
      have := ih.2 ha
      omega
    | false =>
      have := hx.2 hc
      exact ⟨by omega, fun _ => by omega⟩
theorem lvl (sep : Str) (f : Str → Str) (c : Str → Bool) (l : List Str) (h : ∀ x ∈ l, (c x = true → f x = x) ∧ (c x = false → (f x).length < x.length)) :
    (l.all c = true → Str.join sep (l.map f) = Str.join sep l) ∧ (l.all c = false → (Str.join sep (l.map f)).length < (Str.join sep l).length) := by
  refine ⟨fun ha => ?_, fun ha => ?_⟩
  · have e : l.map f = l := by
      conv => rhs; rw [← List.map_id l]
      exact List.map_congr_left fun x hx => (h x hx).1 (List.all_eq_true.mp ha x hx)
    rw [e]
  · have := (lvl_sum f c l h).2 ha
    rw [jn_len, jn_len, List.length_map]
    omega
theorem mem_sum {l : List Str} {x : Str} (h : x ∈ l) : x.length ≤ (l.map (·.length)).sum := by
  induction l with
  | nil => cases h
  | cons y l ih =>
    rw [List.map_cons, List.sum_cons]
    rcases List.mem_cons.mp h with rfl | h
    · omega
    · have := ih h
      omega
theorem part_len {sep z x : Str} (h : x ∈ Txt.split z sep) : x.length ≤ z.length := by
  have e := StrLaws.join_split z sep
  have hl := jn_len sep (Txt.split z sep)
  rw [e] at hl
  have := mem_sum h
  omega
theorem part_cnt (sep z : Str) : (Txt.split z sep).length ≤ z.length + 2 := split_le z sep
/-! ### a word's figures -/
theorem str_eq (x y : Str) : pyEq (.str x) (.str y) = ret (x == y) := by
  unfold pyEq
  rw [if_pos ⟨rfl, rfl, by simp [PyData.depth]⟩]
  simp only [PyData.eqv]
theorem str_ne (x y : Str) : pyNe (.str x) (.str y) = ret (!(x == y)) := by
  unfold pyNe
  rw [if_pos ⟨rfl, rfl, by simp [PyData.depth]⟩]
  simp only [PyData.eqv]
theorem str_beq (x y : Str) : (x == y) = decide (cs x = cs y) := by
  rw [Bool.eq_iff_iff, beq_iff_eq, decide_eq_true_iff]
  exact ⟨fun h => by rw [h], cs_inj⟩
theorem cut_to {α : Type} {xs : List α} {j : Nat} : cutD xs none (some (j : Int)) = xs.take j := by
  unfold cutD
  rw [HT.sIx_none, HT.sIx_nat, List.drop_zero, Nat.sub_zero]
  rcases Nat.le_total j xs.length with h | h
  · rw [Nat.min_eq_left h]
  · rw [Nat.min_eq_right h, List.take_length, List.take_of_length_le h]
theorem cut_from {α : Type} {xs : List α} {j : Nat} : cutD xs (some (j : Int)) none = xs.drop j := by
  unfold cutD
  rw [HT.sIx_none, HT.sIx_nat]
  rcases Nat.le_total j xs.length with h | h
  · rw [Nat.min_eq_left h, List.take_of_length_le (by rw [List.length_drop]; omega)]
  · rw [Nat.min_eq_right h, Nat.sub_self, List.take_zero, List.drop_of_length_le h]
theorem cutS_cs (z : Str) (lo hi : Option Int) : cs (cutS z lo hi) = cutD (cs z) lo hi := by
  unfold cutS cutD
  rw [cs_len]
def figs (w : Str) : Str := ⟨(figsL (cs w)).toArray⟩
theorem figs_cs (w : Str) : cs (figs w) = figsL (cs w) := rfl
def neg (w : Str) : Bool := match cs w with
  | 45 :: _ => true
  | _ => false
theorem starts (w : Str) : Txt.startswith w (PySem.Str.ofString "-") = neg w := by
  obtain ⟨⟨l⟩⟩ := w
  have e : PySem.Str.ofString "-" = ⟨#[45]⟩ := by decide +kernel
  rw [e]
  unfold Txt.startswith neg PySem.Builtin.Str.subAt
  cases l with
  | nil => rfl
  | cons c r =>
    show (decide (0 + 1 ≤ (c :: r).length) && _) = _
    have h2 : (⟨c :: r⟩ : Array Nat).extract 0 (0 + 1) = #[c] := by
      apply Array.toList_inj.mp
      simp
    show (decide (0 + 1 ≤ (c :: r).length) && ((⟨c :: r⟩ : Array Nat).extract 0 (0 + 1) == #[45])) = _
    rw [h2, decide_eq_true (by simp), Bool.true_and]
    by_cases hc : c = 45
    · subst hc
      rfl
    · have h3 : ((#[c] : Array Nat) == #[45]) = false := by
        simp [hc]
      rw [h3]
      split
      · rename_i q
        injection q with q _
        exact absurd q hc
      · rfl
theorem head1 (w : Str) : (cutS w none (some 1) == PySem.Str.ofString "-") = neg w := by
  have e : cs (PySem.Str.ofString "-") = [45] := by decide +kernel
  rw [str_beq, cutS_cs, e]
  have := cut_to (xs := cs w) (j := 1)
  rw [show ((1 : Nat) : Int) = 1 from rfl] at this
  rw [this]
  unfold neg
  cases h : cs w with
  | nil => rfl
  | cons c r =>
    by_cases hc : c = 45
    · subst hc
      rfl
    · rw [List.take_succ_cons, List.take_zero, decide_eq_false (fun q => hc (by injection q))]
      split
      · rename_i q
        injection q with q _
        exact absurd q hc
      · rfl
theorem tail1 {w : Str} (h : neg w = true) : cutS w (some 1) none = figs w := by
  apply cs_inj
  rw [cutS_cs, figs_cs]
  have := cut_from (xs := cs w) (j := 1)
  rw [show ((1 : Nat) : Int) = 1 from rfl] at this
  rw [this]
  unfold neg at h
  split at h
  · rename_i r q
    rw [q]
    rfl
  · cases h
theorem figs_pos {w : Str} (h : neg w = false) : figs w = w := by
  apply cs_inj
  rw [figs_cs]
  unfold neg at h
  split at h
  · cases h
  · rename_i hn
    unfold figsL
    split
    · rename_i r q
      exact absurd q (hn r)
    · rfl
theorem figs_len (w : Str) : (figs w).length ≤ w.length := by
  rw [← cs_len, ← cs_len, figs_cs]
  unfold figsL
  split
  · rename_i r q
    rw [q]
    simp
  · exact Nat.le_refl _
theorem sign_in (c : Nat) : pyNotIn (.str ⟨#[c]⟩) (.str (PySem.Str.ofString "0123456789")) = ret (!isDig c) := by
  have e : cs (PySem.Str.ofString "0123456789") = [48, 49, 50, 51, 52, 53, 54, 55, 56, 57] := by decide +kernel
  have h : pyIn (.str ⟨#[c]⟩) (.str (PySem.Str.ofString "0123456789")) = ret (decide (c ∈ cs (PySem.Str.ofString "0123456789"))) := rfl
  unfold pyNotIn
  rw [h, bnd_ret, e]
  congr 2
  rw [Bool.eq_iff_iff, decide_eq_true_iff]
  unfold isDig
  simp only [List.mem_cons, List.not_mem_nil, or_false, Bool.and_eq_true, decide_eq_true_eq]
  omega
/-! ### number_of -/
theorem loop_sign (A B : Option Sl) : ∀ (l : List Nat) (x : Option Sl), ∃ x', loopM (tgN 2) lb_number_of_1 (l.map fun c => PyData.str ⟨#[c]⟩) [A, B, x] = if l.all isDig = true then ret (.nx [A, B, x']) else some (.er .text)
  | [], x => ⟨x, rfl⟩
  | c :: l, x => by
    have t : m2B pyNotIn (mV 2) (mC (.str (PySem.Str.ofString "0123456789"))) [A, B, some (.imm (.str ⟨#[c]⟩))] = ret (!isDig c) := sign_in c
    rw [List.all_cons]
    cases hc : isDig c with
    | false =>
      rw [hc] at t
      have st : lb_number_of_1 [A, B, some (.imm (.str ⟨#[c]⟩))] = some (.er .text) := by
        unfold lb_number_of_1
        rw [if_t t]
        rfl
      exact ⟨none, by rw [List.map_cons, loop_step (w_tgN) st]; rfl⟩
    | true =>
      rw [hc] at t
      have st : lb_number_of_1 [A, B, some (.imm (.str ⟨#[c]⟩))] = ret (.nx [A, B, some (.imm (.str ⟨#[c]⟩))]) := by
        unfold lb_number_of_1
        rw [if_f t]
        rfl
      obtain ⟨x', ih⟩ := loop_sign A B l (some (.imm (.str ⟨#[c]⟩)))
      exact ⟨x', by rw [List.map_cons, loop_step (w_tgN) st, Bool.true_and]; exact ih⟩
theorem emptyS : cs (PySem.Str.ofString "") = [] := by decide +kernel
theorem figs_tests (w : Str) : (figs w == PySem.Str.ofString "") = decide (figsL (cs w) = []) ∧ (figs w).length = (figsL (cs w)).length := by
  refine ⟨?_, ?_⟩
  · rw [str_beq, figs_cs, emptyS]
  · rw [← cs_len, figs_cs]
theorem okW_parts (w : Str) : okW w = (!decide (figsL (cs w) = []) && (!decide ((figsL (cs w)).length > 6) && (figsL (cs w)).all isDig)) := by
  unfold okW
  congr 1
  · by_cases h : figsL (cs w) = []
    · rw [decide_eq_true h, decide_eq_false (fun z => z h)]
      rfl
    · rw [decide_eq_false h, decide_eq_true h]
      rfl
  · congr 1
    by_cases h : (figsL (cs w)).length ≤ 6
    · rw [decide_eq_true h, decide_eq_false (by omega)]
      rfl
    · rw [decide_eq_false h, decide_eq_true (by omega)]
      rfl
theorem int_of {w : Str} (h : okW w = true) : pyIntT [.str w] = ret (.int (val w)) := by
  obtain ⟨h1, h2, _⟩ := okW_read h
  unfold pyIntT
  dsimp only
  rw [h1]
  dsimp only
  rw [if_pos (by omega)]
theorem len_str (z : Str) (hz : z.length ≤ 16777216) : pyLen [.str z] = ret (.int (z.length : Int)) := by
  simp [pyLen, hz]
theorem F_number_w (w : Str) (hw : w.length ≤ 10000) : F_number_of [.str w] = if okW w = true then ret (.int (val w)) else some (.er .text) := by
  have fl := figs_len w
  obtain ⟨g1, g2⟩ := figs_tests w
  have s2 : sIf (mIsB (mM pyStartswith (mV 0) (mC (.str (PySem.Str.ofString "-"))))) (sSet 1 (mSl (mV 0) (mO (mC (.int 1))) mO0)) sNx [some (.imm (.str w)), some (.imm (.str w)), none] = ret (.nx [some (.imm (.str w)), some (.imm (.str (figs w))), none]) := by
    have t : mIsB (mM pyStartswith (mV 0) (mC (.str (PySem.Str.ofString "-")))) [some (.imm (.str w)), some (.imm (.str w)), none] = ret (neg w) := by
      show ret (Txt.startswith w (PySem.Str.ofString "-")) = _
      rw [starts]
    cases hn : neg w with
    | true =>
      rw [hn] at t
      rw [if_t t]
      refine set_of (d := .str (figs w)) ?_
      show (if w.length ≤ 16777216 then ret (PyData.str (cutS w (some 1) none)) else none) = _
      rw [if_pos (by omega), tail1 hn]
    | false =>
      rw [hn] at t
      rw [if_f t, figs_pos hn]
      rfl
  have t3 : mOr (m2B pyEq (mV 1) (mC (.str (PySem.Str.ofString "")))) (m2B pyGt (mCall pyLen (mCons (mV 1) mNil)) (mC (.int 6))) [some (.imm (.str w)), some (.imm (.str (figs w))), none] = ret (decide (figsL (cs w) = []) || decide ((figsL (cs w)).length > 6)) := by
    rw [w_mOr]
    have a : m2B pyEq (mV 1) (mC (.str (PySem.Str.ofString ""))) [some (.imm (.str w)), some (.imm (.str (figs w))), none] = ret (decide (figsL (cs w) = [])) := by
      show pyEq (.str (figs w)) (.str (PySem.Str.ofString "")) = _
      rw [str_eq, g1]
    have b : m2B pyGt (mCall pyLen (mCons (mV 1) mNil)) (mC (.int 6)) [some (.imm (.str w)), some (.imm (.str (figs w))), none] = ret (decide ((figsL (cs w)).length > 6)) := by
      show bnd (pyLen [.str (figs w)]) _ = _
      rw [len_str _ (by omega), g2]
      show ret (decide (((figsL (cs w)).length : Int) > 6)) = _
      congr 1
      exact decide_eq_decide.mpr ⟨fun h => by omega, fun h => by omega⟩
    rw [a, b]
    cases decide (figsL (cs w) = []) <;> rfl
  obtain ⟨x', hl⟩ := loop_sign (some (.imm (.str w))) (some (.imm (.str (figs w)))) (figsL (cs w)) none
  have hl' : sFor (tgN 2) (mSs (mV 1)) lb_number_of_1 [some (.imm (.str w)), some (.imm (.str (figs w))), none] = if (figsL (cs w)).all isDig = true then ret (.nx [some (.imm (.str w)), some (.imm (.str (figs w))), x']) else some (.er .text) := hl
  rw [okW_parts]
  show bnd (m_number_of [some (.imm (.str w)), none, none]) endD = _
  have body : m_number_of [some (.imm (.str w)), none, none] = if (!decide (figsL (cs w) = []) && (!decide ((figsL (cs w)).length > 6) && (figsL (cs w)).all isDig)) = true then ret (.rt (.int (val w))) else some (.er .text) := by
    unfold m_number_of
    refine seq_eq (ρ' := [some (.imm (.str w)), some (.imm (.str w)), none]) rfl ?_
    refine seq_eq s2 ?_
    cases h1 : decide (figsL (cs w) = []) with
    | true =>
      rw [h1] at t3
      rw [show (!true && (!decide ((figsL (cs w)).length > 6) && (figsL (cs w)).all isDig)) = false from rfl, if_neg (by decide)]
      exact seq_er (by rw [if_t t3]; rfl)
    | false =>
      cases h2 : decide ((figsL (cs w)).length > 6) with
      | true =>
        rw [h1, h2] at t3
        rw [show (!false && (!true && (figsL (cs w)).all isDig)) = false from rfl, if_neg (by decide)]
        exact seq_er (by rw [if_t t3]; rfl)
      | false =>
        rw [h1, h2] at t3
        refine seq_eq (by rw [if_f t3]; rfl) ?_
        cases h3 : (figsL (cs w)).all isDig with
        | false =>
          rw [h3, if_neg (by decide)] at hl'
          rw [if_neg (by decide)]
          exact seq_er hl'
        | true =>
          have ok : okW w = true := by rw [okW_parts, h1, h2, h3]; rfl
          rw [h3, if_pos rfl] at hl'
          rw [if_pos (by decide)]
          refine seq_eq hl' (ret_of ?_)
          exact (call_of (F := pyIntT) (ds := [.str w]) rfl).trans (int_of ok)
  rw [body]
  split <;> rfl
/-! ### the law's number -/
theorem F_lnumber_w (w : Str) (hw : w.length ≤ 10000) : F__law_numberT [.str w] = ret (if (okW w && canon w) = true then .int (val w) else .none) := by
  have fl := figs_len w
  obtain ⟨g1, g2⟩ := figs_tests w
  have s2 : sIf (m2B pyEq (mSl (mV 0) mO0 (mO (mC (.int 1)))) (mC (.str (PySem.Str.ofString "-")))) (sSet 1 (mSl (mV 0) (mO (mC (.int 1))) mO0)) sNx [some (.imm (.str w)), some (.imm (.str w)), none] = ret (.nx [some (.imm (.str w)), some (.imm (.str (figs w))), none]) := by
    have t : m2B pyEq (mSl (mV 0) mO0 (mO (mC (.int 1)))) (mC (.str (PySem.Str.ofString "-"))) [some (.imm (.str w)), some (.imm (.str w)), none] = ret (neg w) := by
      show bnd (if w.length ≤ 16777216 then ret (PyData.str (cutS w none (some 1))) else none) _ = _
      rw [if_pos (by omega)]
      show pyEq (.str (cutS w none (some 1))) (.str (PySem.Str.ofString "-")) = _
      rw [str_eq, head1]
    cases hn : neg w with
    | true =>
      rw [hn] at t
      rw [if_t t]
      refine set_of (d := .str (figs w)) ?_
      show (if w.length ≤ 16777216 then ret (PyData.str (cutS w (some 1) none)) else none) = _
      rw [if_pos (by omega), tail1 hn]
    | false =>
      rw [hn] at t
      rw [if_f t, figs_pos hn]
      rfl
  have t3 : mOr (m2B pyEq (mV 1) (mC (.str (PySem.Str.ofString "")))) (mOr (m2B pyGt (mCall pyLen (mCons (mV 1) mNil)) (mC (.int 6))) (m2B pyGt (mCall pyLen (mCons (mL (mLc [2] (mSs (mV 1)) (tgN 2) (m2B pyNotIn (mV 2) (mC (.str (PySem.Str.ofString "0123456789")))) (mV 2))) mNil)) (mC (.int 0)))) [some (.imm (.str w)), some (.imm (.str (figs w))), none] = ret (!okW w) := by
    have a : m2B pyEq (mV 1) (mC (.str (PySem.Str.ofString ""))) [some (.imm (.str w)), some (.imm (.str (figs w))), none] = ret (decide (figsL (cs w) = [])) := by
      show pyEq (.str (figs w)) (.str (PySem.Str.ofString "")) = _
      rw [str_eq, g1]
    have b : m2B pyGt (mCall pyLen (mCons (mV 1) mNil)) (mC (.int 6)) [some (.imm (.str w)), some (.imm (.str (figs w))), none] = ret (decide ((figsL (cs w)).length > 6)) := by
      show bnd (pyLen [.str (figs w)]) _ = _
      rw [len_str _ (by omega), g2]
      show ret (decide (((figsL (cs w)).length : Int) > 6)) = _
      congr 1
      exact decide_eq_decide.mpr ⟨fun h => by omega, fun h => by omega⟩
    have c : m2B pyGt (mCall pyLen (mCons (mL (mLc [2] (mSs (mV 1)) (tgN 2) (m2B pyNotIn (mV 2) (mC (.str (PySem.Str.ofString "0123456789")))) (mV 2))) mNil)) (mC (.int 0)) [some (.imm (.str w)), some (.imm (.str (figs w))), none] = ret (!(figsL (cs w)).all isDig) := by
      have e := mLc_fm (vs := [2]) (fa := mSs (mV 1)) (g := tgN 2) (t := m2B pyNotIn (mV 2) (mC (.str (PySem.Str.ofString "0123456789")))) (f := mV 2) (ρ := [some (.imm (.str w)), some (.imm (.str (figs w))), none]) (ds := (figsL (cs w)).map fun c => PyData.str ⟨#[c]⟩)
        (fun d => match d with
          | .str z => !isDig (z.cps.getD 0 0)
          | _ => false) (fun d => d) rfl rfl (by rw [List.length_map]; omega) fun d hd => by
          obtain ⟨k, _, rfl⟩ := List.mem_map.mp hd
          exact ⟨_, w_tgN, sign_in k, fun _ => rfl⟩
      rw [w_m2B, w_mCall, w_mCons, w_mL, e, List.map_id', bnd_ret, bnd_ret, w_mNil, bnd_ret, bnd_ret, List.filter_map]
      have l1 : pyLen [.list (((figsL (cs w)).filter ((fun d => match d with
          | PyData.str z => !isDig (z.cps.getD 0 0)
          | _ => false) ∘ fun c => PyData.str ⟨#[c]⟩)).map fun c => PyData.str ⟨#[c]⟩)] = ret (.int (((figsL (cs w)).filter fun c => !isDig c).length : Int)) := by
        have : ∀ xs : List PyData, pyLen [.list xs] = ret (.int (xs.length : Int)) := fun _ => rfl
        rw [this, List.length_map]
        rfl
      rw [l1, bnd_ret, w_mC, bnd_ret]
      show ret (decide ((((figsL (cs w)).filter fun c => !isDig c).length : Int) > 0)) = _
      congr 1
      rw [Bool.eq_iff_iff, decide_eq_true_iff]
      have q : ((figsL (cs w)).filter fun c => !isDig c).length = 0 ↔ (figsL (cs w)).all isDig = true := by
        rw [List.length_eq_zero_iff, List.filter_eq_nil_iff, List.all_eq_true]
        constructor
        · intro h x hx
          have := h x hx
          simpa using this
        · intro h x hx
          have := h x hx
          simpa using this
      cases h : (figsL (cs w)).all isDig with
      | true =>
        have := q.mpr h
        exact ⟨fun z => by omega, fun z => by cases z⟩
      | false =>
        have : ((figsL (cs w)).filter fun c => !isDig c).length ≠ 0 := fun z => by
          rw [q.mp z] at h
          cases h
        exact ⟨fun _ => rfl, fun _ => by omega⟩
    rw [w_mOr, a, bnd_ret, w_mOr, b, bnd_ret, c, okW_parts]
    cases decide (figsL (cs w) = []) <;> cases decide ((figsL (cs w)).length > 6) <;> cases (figsL (cs w)).all isDig <;> rfl
  refine fnD_of ?_
  show m__law_numberT [some (.imm (.str w)), none, none] = _
  unfold m__law_numberT
  refine seq_eq (ρ' := [some (.imm (.str w)), some (.imm (.str w)), none]) rfl ?_
  refine seq_eq s2 ?_
  cases ok : okW w with
  | false =>
    rw [ok] at t3
    rw [show (false && canon w) = false from rfl, if_neg (by decide)]
    exact seq_rt (by rw [if_t t3]; rfl)
  | true =>
    rw [ok] at t3
    rw [Bool.true_and]
    refine seq_eq (by rw [if_f t3]; rfl) ?_
    have t4 : mAnd (m2B pyEq (m2 pyIx (mV 1) (mC (.int 0))) (mC (.str (PySem.Str.ofString "0")))) (mOr (m2B pyGt (mCall pyLen (mCons (mV 1) mNil)) (mC (.int 1))) (m2B pyNe (mV 0) (mC (.str (PySem.Str.ofString "0"))))) [some (.imm (.str w)), some (.imm (.str (figs w))), none] = ret (!canon w) := by
      have nz : cs (PySem.Str.ofString "0") = [48] := by decide +kernel
      have b : m2B pyGt (mCall pyLen (mCons (mV 1) mNil)) (mC (.int 1)) [some (.imm (.str w)), some (.imm (.str (figs w))), none] = ret (decide ((figsL (cs w)).length > 1)) := by
        show bnd (pyLen [.str (figs w)]) _ = _
        rw [len_str _ (by omega), g2]
        show ret (decide (((figsL (cs w)).length : Int) > 1)) = _
        congr 1
        exact decide_eq_decide.mpr ⟨fun h => by omega, fun h => by omega⟩
      have c : m2B pyNe (mV 0) (mC (.str (PySem.Str.ofString "0"))) [some (.imm (.str w)), some (.imm (.str (figs w))), none] = ret (!decide (cs w = [48])) := by
        show pyNe (.str w) (.str (PySem.Str.ofString "0")) = _
        rw [str_ne, str_beq, nz]
      have ne : figsL (cs w) ≠ [] := by
        rcases okW_inv ok with ⟨_, h2, h3, _⟩ | ⟨l, e, _, h2, h3, _⟩
        · rw [h3]; exact h2
        · rw [h3]; exact h2
      obtain ⟨f0, fr, ef⟩ := List.exists_cons_of_ne_nil ne
      have a : m2B pyEq (m2 pyIx (mV 1) (mC (.int 0))) (mC (.str (PySem.Str.ofString "0"))) [some (.imm (.str w)), some (.imm (.str (figs w))), none] = ret (decide (f0 = 48)) := by
        have hx : m2 pyIx (mV 1) (mC (.int 0)) [some (.imm (.str w)), some (.imm (.str (figs w))), none] = ret (.str ⟨#[f0]⟩) := by
          show (if (figs w).length ≤ 16777216 then ofO (atI (cs (figs w)) 0) (fun c => PyData.str ⟨#[c]⟩) else none) = _
          rw [if_pos (by omega), figs_cs, ef]
          show ofO (atI (f0 :: fr) ((0 : Nat) : Int)) _ = _
          rw [atI_nat (v := f0) rfl]
          rfl
        rw [w_m2B, hx]
        show pyEq (.str ⟨#[f0]⟩) (.str (PySem.Str.ofString "0")) = _
        rw [str_eq, str_beq, nz]
        show ret (decide ([f0] = [48])) = _
        congr 1
        exact decide_eq_decide.mpr ⟨fun h => by injection h, fun h => by rw [h]⟩
      rw [w_mAnd, a, bnd_ret]
      have hor : mOr (m2B pyGt (mCall pyLen (mCons (mV 1) mNil)) (mC (.int 1))) (m2B pyNe (mV 0) (mC (.str (PySem.Str.ofString "0")))) [some (.imm (.str w)), some (.imm (.str (figs w))), none] = ret (decide ((figsL (cs w)).length > 1) || !decide (cs w = [48])) := by
        rw [w_mOr, b, bnd_ret, c]
        cases decide ((figsL (cs w)).length > 1) <;> rfl
      have key : (decide (f0 = 48) && (decide ((figsL (cs w)).length > 1) || !decide (cs w = [48]))) = !canon w := by
        rcases okW_inv ok with ⟨h1, h2, h3, _⟩ | ⟨l, e, h1, h2, h3, _⟩
        · rw [h3] at ef ⊢
          rw [ef] at h1 ⊢
          have ec : canon w = canonL (f0 :: fr) := by
            unfold canon
            rw [ef]
            split
            · rename_i q
              injection q with q _
              have := h1 f0 List.mem_cons_self
              omega
            · rfl
          rw [ec]
          by_cases hf : f0 = 48
          · subst hf
            cases fr with
            | nil => rfl
            | cons a r => simp [canonL]
          · rw [decide_eq_false hf, Bool.false_and]
            unfold canonL
            split
            · rename_i q
              injection q with q _
              exact absurd q hf
            · rfl
        · rw [h3] at ef
          have n48 : cs w ≠ [48] := fun z => by
            rw [e] at z
            injection z with z _
            cases z
          rw [decide_eq_false n48, Bool.not_false, Bool.or_true, Bool.and_true]
          subst ef
          unfold canon
          rw [e]
          by_cases hf : f0 = 48
          · subst hf
            rfl
          · rw [decide_eq_false hf]
            split
            · rename_i q
              injection q with _ q
              injection q with q _
              exact absurd q hf
            · rfl
      rw [← key]
      cases decide (f0 = 48) with
      | true => exact hor
      | false => rfl
    cases hc : canon w with
    | false =>
      rw [hc] at t4
      rw [if_neg (by decide)]
      exact seq_rt (by rw [if_t t4]; rfl)
    | true =>
      rw [hc] at t4
      rw [if_pos rfl]
      refine seq_eq (by rw [if_f t4]; rfl) (ret_of ?_)
      exact (call_of (F := pyIntT) (ds := [.str w]) rfl).trans (int_of ok)
end VW
namespace VW
open PySem PySem.Spec PyProof.Rows L2
def sepN : Str := PySem.Str.ofString "\n"
def sepS : Str := PySem.Str.ofString "; "
def sepB : Str := PySem.Str.ofString " "
def sE : Str := PySem.Str.ofString ""
def rowsZ (z : Str) : List Str := Txt.split z sepN
def parts (r : Str) : List Str := Txt.split r sepS
def words (p : Str) : List Str := Txt.split p sepB
theorem sE_eq {r : Str} (h : (r == sE) = true) : r = Str.empty := by
  rw [str_beq, decide_eq_true_iff] at h
  apply cs_inj
  rw [h]
  exact emptyS
/-! ### data of texts -/
def tupP (p : Str) : PyData := .tuple ((words p).map fun w => .int (val w))
def vo (r : Str) : List PyData := if (r == sE) = true then [] else (parts r).map tupP
def okPt (p : Str) : Bool := (words p).all okW
def okR (r : Str) : Bool := (r == sE) || (parts r).all okPt
def PD (z : Str) : PyData := .list ((rowsZ z).map fun r => .list (vo r))
/-! ### texts of data -/
def iTxt : PyData → Str
  | .int i => strI i
  | _ => Str.empty
def dTxt : PyData → Str
  | .tuple ds => Str.join sepB (ds.map iTxt)
  | _ => Str.empty
def vTxt (ds : List PyData) : Str := Str.join sepS (ds.map dTxt)
def WD (dss : List (List PyData)) : Str := Str.join sepN (dss.map vTxt)
/-! ### there and back -/
def canonPt (p : Str) : Bool := (words p).all canon
def canonR (r : Str) : Bool := (r == sE) || (parts r).all canonPt
def canonZ (z : Str) : Bool := (rowsZ z).all canonR
theorem back_pt {p : Str} (h : okPt p = true) : (canonPt p = true → dTxt (tupP p) = p) ∧ (canonPt p = false → (dTxt (tupP p)).length < p.length) := by
  have e : dTxt (tupP p) = Str.join sepB ((words p).map fun w => strI (val w)) := by
    show Str.join sepB (((words p).map fun w => .int (val w)).map iTxt) = _
    rw [List.map_map]
    rfl
  have q := lvl sepB (fun w => strI (val w)) canon (words p) fun w hw => word_back (List.all_eq_true.mp h w hw)
  have hp : Str.join sepB (words p) = p := StrLaws.join_split p sepB
  rw [hp] at q
  rw [e]
  exact q
theorem back_r {r : Str} (h : okR r = true) : (canonR r = true → vTxt (vo r) = r) ∧ (canonR r = false → (vTxt (vo r)).length < r.length) := by
  unfold okR at h
  unfold canonR vo
  cases hr : r == sE with
  | true =>
    refine ⟨fun _ => ?_, fun z => by cases z⟩
    rw [if_pos rfl, sE_eq hr]
    rfl
  | false =>
    rw [hr, Bool.false_or] at h
    rw [Bool.false_or, if_neg (by decide)]
    have e : vTxt ((parts r).map tupP) = Str.join sepS ((parts r).map fun p => dTxt (tupP p)) := by
      unfold vTxt
      rw [List.map_map]
      rfl
    have q := lvl sepS (fun p => dTxt (tupP p)) canonPt (parts r) fun p hp => back_pt (List.all_eq_true.mp h p hp)
    have hp : Str.join sepS (parts r) = r := StrLaws.join_split r sepS
    rw [hp] at q
    rw [e]
    exact q
theorem back_z {z : Str} (h : (rowsZ z).all okR = true) : (WD ((rowsZ z).map vo) == z) = canonZ z := by
  have e : WD ((rowsZ z).map vo) = Str.join sepN ((rowsZ z).map fun r => vTxt (vo r)) := by
    unfold WD
    rw [List.map_map]
    rfl
  have q := lvl sepN (fun r => vTxt (vo r)) canonR (rowsZ z) fun r hr => back_r (List.all_eq_true.mp h r hr)
  have hp : Str.join sepN (rowsZ z) = z := StrLaws.join_split z sepN
  rw [hp] at q
  rw [e]
  show _ = (rowsZ z).all canonR
  cases hc : (rowsZ z).all canonR with
  | true =>
    rw [q.1 hc]
    exact beq_self_eq_true z
  | false =>
    have hl := q.2 hc
    rw [beq_eq_false_iff_ne]
    intro ez
    rw [ez] at hl
    omega
/-! ### voice_of -/
theorem mM_of {op : Str → PyData → M PyData} {f g : Rho → M PyData} {ρ : Rho} {a : Str} {d : PyData} (h1 : f ρ = ret (.str a)) (h2 : g ρ = ret d) : mM op f g ρ = op a d := by
  unfold mM
  rw [h1, bnd_ret]
  dsimp only
  rw [h2]
  rfl
theorem split_ls {i : Nat} {ρ : Rho} {r sep : Str} (h : mV i ρ = ret (.str r)) (hs : (sep.length == 0) = false) (hz : r.length ≤ 10000) : mLs (mM pySplit (mV i) (mC (.str sep))) ρ = ret ((Txt.split r sep).map .str) := by
  unfold mLs mM
  rw [h]
  show bnd (if (sep.length == 0) = false ∧ r.length + 2 ≤ 16777216 then ret (PyData.list ((Txt.split r sep).map .str)) else none) _ = _
  rw [if_pos ⟨hs, by omega⟩]
  rfl
theorem sepN_len : (sepN.length == 0) = false := by decide +kernel
theorem sepS_len : (sepS.length == 0) = false := by decide +kernel
theorem sepB_len : (sepB.length == 0) = false := by decide +kernel
theorem mapE_if {k : PyData → M PyData} (f : Str → PyData) (ok : Str → Bool) (x : Ex) : ∀ l : List Str, (∀ s ∈ l, k (.str s) = if ok s = true then ret (f s) else some (.er x)) → mapE k (l.map .str) = if l.all ok = true then ret (l.map f) else some (.er x)
  | [], _ => rfl
  | s :: l, h => by
    have ih := mapE_if f ok x l fun t ht => h t (List.mem_cons_of_mem _ ht)
    rw [List.map_cons, List.all_cons]
    unfold mapE
    rw [h s List.mem_cons_self, ih]
    cases ok s with
    | false => rfl
    | true =>
      rw [if_pos rfl, bnd_ret, Bool.true_and]
      cases l.all ok <;> rfl
theorem part_tup {p : Str} (hp : p.length ≤ 10000) (x0 : Option Sl) : mCall pyTupleOf (mCons (mL (mLcR [2] (mLs (mM pySplit (mV 1) (mC (.str (PySem.Str.ofString " "))))) (tgN 2) (mCall F_number_of (mCons (mV 2) mNil)))) mNil) [x0, some (.imm (.str p)), none] = if okPt p = true then ret (tupP p) else some (.er .text) := by
  have e := lcR_mapE (vs := [2]) (fa := mLs (mM pySplit (mV 1) (mC (.str (PySem.Str.ofString " "))))) (g := tgN 2) (f := mCall F_number_of (mCons (mV 2) mNil)) (ρ := [x0, some (.imm (.str p)), none]) (ds := (words p).map .str) (fun d => F_number_of [d])
    (split_ls (sep := sepB) rfl sepB_len hp) rfl (by
      have := part_cnt sepB p
      rw [List.length_map]
      show (Txt.split p sepB).length ≤ _
      omega) fun d hd => ⟨_, w_tgN, call_of rfl⟩
  have e2 := mapE_if (k := fun d => F_number_of [d]) (fun w => .int (val w)) okW .text (words p) fun w hw => F_number_w w (Nat.le_trans (part_len hw) hp)
  rw [e2] at e
  rw [w_mCall, w_mCons, w_mL, e]
  unfold okPt
  cases (words p).all okW <;> rfl
theorem F_voice_w {r : Str} (hr : r.length ≤ 10000) : F_voice_of [.str r] = if okR r = true then ret (vo r) else some (.er .text) := by
  have t1 : m2B pyEq (mV 0) (mC (.str (PySem.Str.ofString ""))) [some (.imm (.str r)), none, none] = ret (r == sE) := str_eq r sE
  show bnd (m_voice_of [some (.imm (.str r)), none, none]) endF = _
  unfold okR vo
  cases h : r == sE with
  | true =>
    rw [h] at t1
    have b : m_voice_of [some (.imm (.str r)), none, none] = ret (.rt (.list [])) := by
      unfold m_voice_of
      exact seq_rt (by rw [if_t t1]; rfl)
    rw [b]
    rfl
  | false =>
    rw [h] at t1
    rw [Bool.false_or, show (if false = true then [] else (parts r).map tupP) = (parts r).map tupP from rfl]
    have e := lcR_mapE (vs := [1]) (fa := mLs (mM pySplit (mV 0) (mC (.str (PySem.Str.ofString "; "))))) (g := tgN 1) (f := mCall pyTupleOf (mCons (mL (mLcR [2] (mLs (mM pySplit (mV 1) (mC (.str (PySem.Str.ofString " "))))) (tgN 2) (mCall F_number_of (mCons (mV 2) mNil)))) mNil)) (ρ := [some (.imm (.str r)), none, none]) (ds := (parts r).map .str)
      (fun d => match d with
        | .str p => if okPt p = true then ret (tupP p) else some (.er .text)
        | _ => none)
      (split_ls (sep := sepS) rfl sepS_len hr) rfl (by
        have := part_cnt sepS r
        rw [List.length_map]
        show (Txt.split r sepS).length ≤ _
        omega) fun d hd => by
        obtain ⟨p, hp, rfl⟩ := List.mem_map.mp hd
        exact ⟨_, w_tgN, part_tup (Nat.le_trans (part_len hp) hr) _⟩
    rw [mapE_if tupP okPt .text (parts r) fun p hp => rfl] at e
    have b : m_voice_of [some (.imm (.str r)), none, none] = if (parts r).all okPt = true then ret (.rt (.list ((parts r).map tupP))) else some (.er .text) := by
      unfold m_voice_of
      refine seq_eq (by rw [if_f t1]; rfl) ?_
      show bnd (mLcR _ _ _ _ _) _ = _
      rw [e]
      cases (parts r).all okPt <;> rfl
    rw [b]
    cases (parts r).all okPt <;> rfl
/-! ### written -/
def bigN (n : Nt) : Prop := (-1000000 < n.1 ∧ n.1 < 1000000) ∧ (-1000000 < n.2.1 ∧ n.2.1 < 1000000) ∧ (-1000000 < n.2.2 ∧ n.2.2 < 1000000)
theorem okN_big {n : Nt} (h : okN n) : bigN n := by
  obtain ⟨a, b, c, d, e⟩ := h
  exact ⟨⟨by omega, by omega⟩, ⟨by omega, by omega⟩, ⟨by omega, by omega⟩⟩
theorem strsOf_map : ∀ ys : List Str, strsOf (ys.map .str) = some ys
  | [] => rfl
  | y :: ys => by
    show (strsOf (ys.map .str)).map (y :: ·) = _
    rw [strsOf_map ys]
    rfl
theorem join_of {sep : Str} {ys : List Str} (h : (ys.map (·.length)).sum + ys.length * sep.length ≤ 16777216) : pyJoin sep (.list (ys.map .str)) = ret (.str (Str.join sep ys)) := by
  unfold pyJoin
  dsimp only [lstOf]
  rw [strsOf_map]
  dsimp only
  rw [if_pos h, jn]
theorem str_of {i : Int} (h : -1000000 < i ∧ i < 1000000) : pyStrI [.int i] = ret (.str (strI i)) := if_pos (log_ok h)
theorem note_len {n : Nt} (h : bigN n) : (dTxt (nt n)).length ≤ 23 := by
  have e : dTxt (nt n) = Str.join sepB [strI n.1, strI n.2.1, strI n.2.2] := rfl
  have a := strI_len h.1
  have b := strI_len h.2.1
  have c := strI_len h.2.2
  have s : sepB.length = 1 := by decide +kernel
  rw [e, jn_len, s]
  simp only [List.map_cons, List.map_nil, List.sum_cons, List.sum_nil, List.length_cons, List.length_nil]
  omega
theorem sum_bound {α : Type} (f : α → Str) (c : Nat) : ∀ l : List α, (∀ x ∈ l, (f x).length ≤ c) → ((l.map f).map (·.length)).sum ≤ l.length * c
  | [], _ => Nat.zero_le _
  | x :: l, h => by
    have ih := sum_bound f c l fun y hy => h y (List.mem_cons_of_mem _ hy)
    have hx := h x List.mem_cons_self
    simp only [List.map_cons, List.sum_cons, List.length_cons, Nat.succ_mul]
    omega
theorem sepS_2 : sepS.length = 2 := by decide +kernel
theorem sepN_1 : sepN.length = 1 := by decide +kernel
theorem sepB_1 : sepB.length = 1 := by decide +kernel
theorem voice_len {v : List Nt} (h : ∀ n ∈ v, bigN n) : (vTxt (v.map nt)).length ≤ v.length * 25 := by
  have a := sum_bound (fun n => dTxt (nt n)) 23 v fun n hn => note_len (h n hn)
  have e : vTxt (v.map nt) = Str.join sepS (v.map fun n => dTxt (nt n)) := by
    unfold vTxt
    rw [List.map_map]
    rfl
  rw [e, jn_len, sepS_2, List.length_map]
  omega
theorem note_txt {i j : Nat} {ρ : Rho} {n : Nt} (hn : bigN n) (hi : mV i ρ = ret (nt n)) (hpl : plainAt ρ j = true) (hj : j < ρ.length) : mM pyJoin (mC (.str (PySem.Str.ofString " "))) (mL (mLc [j] (mTs (mV i)) (tgN j) mYes (mCall pyStrI (mCons (mV j) mNil)))) ρ = ret (.str (dTxt (nt n))) := by
  have e := mLc_map (vs := [j]) (fa := mTs (mV i)) (g := tgN j) (f := mCall pyStrI (mCons (mV j) mNil)) (ρ := ρ) (ds := [.int n.1, .int n.2.1, .int n.2.2]) (fun d => .str (iTxt d)) (by
      unfold mTs
      rw [hi]
      rfl) (by simp [hpl]) (by show 3 ≤ _; decide) fun d hd => by
    refine ⟨_, w_tgN, ?_⟩
    have em : mV j ((wipeR ρ [j]).set j (some (.imm d))) = ret d := mV_of (List.getElem?_set_self (by rw [wipeR_length]; exact hj))
    rw [call_of (F := pyStrI) (ds := [d]) (by rw [w_mCons, em]; rfl)]
    simp only [List.mem_cons, List.not_mem_nil, or_false] at hd
    rcases hd with rfl | rfl | rfl
    · exact str_of hn.1
    · exact str_of hn.2.1
    · exact str_of hn.2.2
  unfold mM
  rw [w_mC, bnd_ret]
  dsimp only
  rw [w_mL, e, bnd_ret, bnd_ret]
  have a := strI_len hn.1
  have b := strI_len hn.2.1
  have c := strI_len hn.2.2
  exact join_of (ys := [strI n.1, strI n.2.1, strI n.2.2]) (by
    have s : (PySem.Str.ofString " ").length = 1 := by decide +kernel
    rw [s]
    simp only [List.map_cons, List.map_nil, List.sum_cons, List.sum_nil, List.length_cons, List.length_nil]
    omega)
theorem voice_txts {i j k : Nat} {ρ : Rho} {v : List Nt} (hn : ∀ n ∈ v, bigN n) (hv : v.length ≤ 20000) (hi : mV i ρ = ret (vc v)) (hpj : plainAt ρ j = true) (hj : j < ρ.length) (hpk : plainAt ρ k = true) (hk : k < ρ.length) (hjk : j ≠ k) :
    mLc [j] (mLs (mV i)) (tgN j) mYes (mM pyJoin (mC (.str (PySem.Str.ofString " "))) (mL (mLc [k] (mTs (mV j)) (tgN k) mYes (mCall pyStrI (mCons (mV k) mNil))))) ρ = ret ((v.map fun n => dTxt (nt n)).map .str) := by
  have e := mLc_map (vs := [j]) (fa := mLs (mV i)) (g := tgN j) (f := mM pyJoin (mC (.str (PySem.Str.ofString " "))) (mL (mLc [k] (mTs (mV j)) (tgN k) mYes (mCall pyStrI (mCons (mV k) mNil))))) (ρ := ρ) (ds := v.map nt) (fun d => .str (dTxt d)) (by
      unfold mLs
      rw [hi]
      rfl) (by simp [hpj]) (by rw [List.length_map]; omega) fun d hd => by
    obtain ⟨n, hnv, rfl⟩ := List.mem_map.mp hd
    refine ⟨_, w_tgN, ?_⟩
    refine note_txt (hn n hnv) (mV_of (List.getElem?_set_self (by rw [wipeR_length]; exact hj))) ?_ (by rw [List.length_set, wipeR_length]; exact hk)
    have : ((wipeR ρ [j]).set j (some (.imm (nt n))))[k]? = ρ[k]? := by
      rw [List.getElem?_set_ne hjk]
      simp [wipeR, List.getElem?_set_ne hjk]
    unfold plainAt at hpk ⊢
    rw [this]
    exact hpk
  rw [e, List.map_map, List.map_map]
  rfl
theorem loop_written (D : PyData) : ∀ (p : List (List Nt)) (acc : List Str) (x2 : Option Sl), (∀ v ∈ p, v.length ≤ 20000 ∧ ∀ n ∈ v, bigN n) → acc.length + p.length ≤ 1000 → ∃ x2', loopM (tgN 2) lb_written_1 (p.map vc) [some (.imm D), some (.own (acc.map .str)), x2, none, none] = ret (.nx [some (.imm D), some (.own ((acc ++ p.map fun v => vTxt (v.map nt)).map .str)), x2', none, none])
  | [], acc, x2, _, _ => ⟨x2, by rw [List.map_nil, List.map_nil, List.append_nil]; rfl⟩
  | v :: p, acc, x2, h, hl => by
    rw [List.length_cons] at hl
    have hv := h v List.mem_cons_self
    obtain ⟨x2', ih⟩ := loop_written D p (acc ++ [vTxt (v.map nt)]) (some (.imm (vc v))) (fun w hw => h w (List.mem_cons_of_mem _ hw)) (by rw [List.length_append]; show acc.length + 1 + _ ≤ _; omega)
    refine ⟨x2', ?_⟩
    have st : lb_written_1 [some (.imm D), some (.own (acc.map .str)), some (.imm (vc v)), none, none] = ret (.nx [some (.imm D), some (.own ((acc ++ [vTxt (v.map nt)]).map .str)), some (.imm (vc v)), none, none]) := by
      unfold lb_written_1
      have e := voice_txts (i := 2) (j := 3) (k := 4) (ρ := [some (.imm D), some (.own (acc.map .str)), some (.imm (vc v)), none, none]) hv.2 hv.1 rfl rfl (by show 3 < 5; decide) rfl (by show 4 < 5; decide) (by decide)
      have q : mM pyJoin (mC (.str (PySem.Str.ofString "; "))) (mL (mLc [3] (mLs (mV 2)) (tgN 3) mYes (mM pyJoin (mC (.str (PySem.Str.ofString " "))) (mL (mLc [4] (mTs (mV 3)) (tgN 4) mYes (mCall pyStrI (mCons (mV 4) mNil))))))) [some (.imm D), some (.own (acc.map .str)), some (.imm (vc v)), none, none] = ret (.str (vTxt (v.map nt))) := by
        refine (mM_of (a := sepS) (d := .list ((v.map fun n => dTxt (nt n)).map .str)) rfl (by rw [w_mL, e]; rfl)).trans ?_
        have a := sum_bound (fun n => dTxt (nt n)) 23 v fun n hn => note_len (hv.2 n hn)
        have j := join_of (sep := sepS) (ys := v.map fun n => dTxt (nt n)) (by rw [sepS_2, List.length_map]; omega)
        have e2 : vTxt (v.map nt) = Str.join sepS (v.map fun n => dTxt (nt n)) := by
          unfold vTxt
          rw [List.map_map]
          rfl
        rw [e2]
        exact j
      rw [app_of (i := 1) (ds := acc.map .str) rfl, q, bnd_ret, if_pos (by rw [List.length_map]; omega), List.map_append]
      rfl
    rw [List.map_cons, loop_step (b := lb_written_1) (ρ1 := [some (.imm D), some (.own (acc.map .str)), some (.imm (vc v)), none, none]) rfl st]
    refine Eq.trans ih ?_
    rw [List.map_cons, List.append_assoc]
    rfl
theorem F_written_w {p : List (List Nt)} (hp : pieceD (pc p) = true) (hv : ∀ v ∈ p, v.length ≤ 20000 ∧ ∀ n ∈ v, bigN n) : F_written [pc p] = ret (.str (WD (p.map (List.map nt)))) := by
  have h6 : p.length ≤ 6 := by
    have h : (decide (1 ≤ (p.map vc).length ∧ (p.map vc).length ≤ 6) && (p.map vc).all voiceD) = true := hp
    rw [Bool.and_eq_true, decide_eq_true_iff, List.length_map] at h
    exact h.1.2
  obtain ⟨x2, hl⟩ := loop_written (pc p) p [] none hv (by show 0 + _ ≤ _; omega)
  have nd : F_need_pieceX [pc p] = ret .none := by
    rw [F_needD _ (clD_pc p), hp]
    rfl
  refine fnD_of ?_
  show m_written [some (.imm (pc p)), none, none, none, none] = _
  unfold m_written
  refine seq_eq (ρ' := [some (.imm (pc p)), none, none, none, none]) (drop_of ((call_of (F := F_need_pieceX) (ds := [pc p]) rfl).trans nd)) ?_
  refine seq_eq (ρ' := [some (.imm (pc p)), some (.own []), none, none, none]) rfl ?_
  refine seq_eq hl ?_
  rw [w_sFrz, w_frzs, w_frz0o, List.nil_append]
  refine ret_of ?_
  have s : ∀ v ∈ p, (vTxt (v.map nt)).length ≤ 500000 := fun v hv' => by
    have := voice_len (hv v hv').2
    have := (hv v hv').1
    omega
  have a := sum_bound (fun v : List Nt => vTxt (v.map nt)) 500000 p s
  have j := join_of (sep := sepN) (ys := p.map fun v => vTxt (v.map nt)) (by
    rw [sepN_1, List.length_map]
    omega)
  have e2 : WD (p.map (List.map nt)) = Str.join sepN (p.map fun v => vTxt (v.map nt)) := by
    unfold WD
    rw [List.map_map]
    rfl
  rw [e2]
  exact j
end VW
namespace VW
open PySem PySem.Spec PyProof.Rows L2
theorem voiceL_inv : ∀ {ds : List PyData} {e : Int}, voiceL e ds = true → ∃ v : List Nt, ds = v.map nt ∧ ∀ n ∈ v, okN n
  | [], _, _ => ⟨[], rfl, fun n hn => (nomatch hn)⟩
  | d :: ds, e, h => by
    cases hd : ntOf d with
    | none =>
      rw [voiceL_no hd] at h
      cases h
    | some n =>
      have := ntOf_some hd
      subst this
      rw [voiceL_nt, Bool.and_eq_true, Bool.and_eq_true] at h
      obtain ⟨v, rfl, hv⟩ := voiceL_inv h.2.2
      refine ⟨n :: v, rfl, fun k hk => ?_⟩
      rcases List.mem_cons.mp hk with rfl | hk
      · exact okNB_iff.mp h.1
      · exact hv k hk
theorem voiceD_inv {ds : List PyData} (h : voiceD (.list ds) = true) : ∃ v : List Nt, ds = v.map nt ∧ ∀ n ∈ v, okN n := voiceL_inv (e := 0) h
theorem rows_inv : ∀ {l : List (List PyData)}, (l.map PyData.list).all voiceD = true → ∃ p : List (List Nt), l = p.map (List.map nt) ∧ ∀ v ∈ p, ∀ n ∈ v, okN n
  | [], _ => ⟨[], rfl, fun v hv => (nomatch hv)⟩
  | ds :: l, h => by
    rw [List.map_cons, List.all_cons, Bool.and_eq_true] at h
    obtain ⟨v, rfl, hv⟩ := voiceD_inv h.1
    obtain ⟨p, rfl, hp⟩ := rows_inv h.2
    refine ⟨v :: p, rfl, fun w hw => ?_⟩
    rcases List.mem_cons.mp hw with rfl | hw
    · exact hv
    · exact hp w hw
theorem PD_eq (z : Str) : PD z = .list (((rowsZ z).map vo).map PyData.list) := by
  unfold PD
  rw [List.map_map]
  rfl
theorem pieceD_inv {z : Str} (h : pieceD (PD z) = true) : ∃ p : List (List Nt), (rowsZ z).map vo = p.map (List.map nt) ∧ PD z = pc p ∧ okP p := by
  have h' : (decide (1 ≤ ((rowsZ z).map fun r => PyData.list (vo r)).length ∧ ((rowsZ z).map fun r => PyData.list (vo r)).length ≤ 6) && ((rowsZ z).map fun r => PyData.list (vo r)).all voiceD) = true := h
  rw [Bool.and_eq_true, decide_eq_true_iff, List.length_map] at h'
  have e : ((rowsZ z).map fun r => PyData.list (vo r)) = ((rowsZ z).map vo).map PyData.list := by
    rw [List.map_map]
    rfl
  rw [e] at h'
  obtain ⟨p, hp, hn⟩ := rows_inv h'.2
  have hl : (rowsZ z).length = p.length := by
    have := congrArg List.length hp
    rw [List.length_map, List.length_map] at this
    exact this
  refine ⟨p, hp, ?_, ?_⟩
  · rw [PD_eq, hp, List.map_map]
    rfl
  · refine ⟨by omega, by omega, fun v hv => ?_⟩
    have h2 := h'.2
    rw [hp, List.all_eq_true] at h2
    have h3 : voiceL 0 (v.map nt) = true := h2 (PyData.list (v.map nt)) (List.mem_map_of_mem (List.mem_map_of_mem hv))
    refine ⟨hn v hv, ?_⟩
    have key : ∀ (v : List Nt) (e : Int), voiceL e (v.map nt) = true → ∀ (i : Nat) m n, v[i]? = some m → v[i + 1]? = some n → m.1 + m.2.1 ≤ n.1 := by
      intro v
      induction v with
      | nil => intro e _ i m n hm; simp at hm
      | cons k r ih =>
        intro e hv i m n hm hn
        rw [List.map_cons, voiceL_nt, Bool.and_eq_true, Bool.and_eq_true] at hv
        cases i with
        | zero =>
          cases r with
          | nil => simp at hn
          | cons k2 r =>
            have hv2 := hv.2.2
            rw [List.map_cons, voiceL_nt, Bool.and_eq_true, Bool.and_eq_true] at hv2
            have em : k = m := Option.some.inj hm
            have en : k2 = n := Option.some.inj hn
            rw [← em, ← en]
            exact of_decide_eq_true hv2.2.1
        | succ i => exact ih _ hv.2.2 i m n (by simpa using hm) (by simpa using hn)
    exact key v 0 h3
theorem clD_PD (z : Str) : clD (PD z) := by
  refine ⟨fun k e => (nomatch e), fun vs e v hv => ?_⟩
  cases e
  obtain ⟨r, _, rfl⟩ := List.mem_map.mp hv
  exact fun k e => (nomatch e)
theorem vo_len (r : Str) : (vo r).length ≤ r.length + 2 := by
  unfold vo
  split
  · exact Nat.zero_le _
  · rw [List.length_map]
    exact part_cnt sepS r
/-! ### read -/
def okZ (z : Str) : Bool := (rowsZ z).all okR && (pieceD (PD z) && canonZ z)
theorem F_read_w {z : Str} (hz : z.length ≤ 8000) : F_read [.str z] = if okZ z = true then ret (PD z) else some (.er .text) := by
  have e := lcR_mapE (vs := [2]) (fa := mLs (mM pySplit (mV 0) (mC (.str (PySem.Str.ofString "\n"))))) (g := tgN 2) (f := mL (mCallF F_voice_of (mCons (mV 2) mNil))) (ρ := [some (.imm (.str z)), none, none]) (ds := (rowsZ z).map .str)
    (fun d => match d with
      | .str r => if okR r = true then ret (.list (vo r)) else some (.er .text)
      | _ => none)
    (split_ls (sep := sepN) rfl sepN_len (by omega)) rfl (by
      have := part_cnt sepN z
      rw [List.length_map]
      show (Txt.split z sepN).length ≤ _
      omega) fun d hd => by
      obtain ⟨r, hr, rfl⟩ := List.mem_map.mp hd
      refine ⟨_, w_tgN, ?_⟩
      show bnd (F_voice_of [.str r]) _ = _
      rw [F_voice_w (Nat.le_trans (part_len hr) (by omega))]
      show _ = (if okR r = true then ret (PyData.list (vo r)) else some (.er .text) : M PyData)
      cases okR r <;> rfl
  rw [mapE_if (fun r => PyData.list (vo r)) okR .text (rowsZ z) fun p hp => rfl] at e
  show bnd (m_read [some (.imm (.str z)), none, none]) endD = _
  have b : m_read [some (.imm (.str z)), none, none] = if okZ z = true then ret (.rt (PD z)) else some (.er .text) := by
    unfold m_read okZ
    refine seq_eq (ρ' := [some (.imm (.str z)), none, none]) (by rw [if_f rfl]; rfl) ?_
    cases ok : (rowsZ z).all okR with
    | false =>
      rw [ok, if_neg (by decide)] at e
      rw [Bool.false_and, if_neg (by decide)]
      refine seq_er ?_
      show bnd (mL _ _) _ = _
      rw [w_mL, e]
      rfl
    | true =>
      rw [ok, if_pos rfl] at e
      rw [Bool.true_and]
      refine seq_eq (ρ' := [some (.imm (.str z)), some (.deep ((rowsZ z).map vo)), none]) ?_ ?_
      · refine (setD_of (d := PD z) ?_).trans ?_
        · rw [w_mL, e]
          rfl
        · rw [PD_eq, slOf_deep]
          rfl
      have fz : frz 1 [some (.imm (.str z)), some (.deep ((rowsZ z).map vo)), none] = [some (.imm (.str z)), some (.imm (PD z)), none] := by
        rw [PD_eq]
        rfl
      have nd := F_needD (PD z) (clD_PD z)
      have cn : mCall F_need_pieceX (mCons (mV 1) mNil) [some (.imm (.str z)), some (.imm (PD z)), none] = F_need_pieceX [PD z] := call_of rfl
      cases hp : pieceD (PD z) with
      | false =>
        rw [hp, if_neg (by decide)] at nd
        rw [Bool.false_and, if_neg (by decide)]
        refine seq_er ?_
        have s : sDrop (mFrz 1 (mCall F_need_pieceX (mCons (mV 1) mNil))) [some (.imm (.str z)), some (.deep ((rowsZ z).map vo)), none] = some (.er .piece) := by
          refine drop_er ?_
          rw [w_mFrz, fz, cn, nd]
          rfl
        unfold sTryR
        rw [s]
        rfl
      | true =>
        rw [hp, if_pos rfl] at nd
        rw [Bool.true_and]
        refine seq_eq (ρ' := [some (.imm (.str z)), some (.deep ((rowsZ z).map vo)), none]) ?_ ?_
        · have s : sDrop (mFrz 1 (mCall F_need_pieceX (mCons (mV 1) mNil))) [some (.imm (.str z)), some (.deep ((rowsZ z).map vo)), none] = ret (.nx [some (.imm (.str z)), some (.deep ((rowsZ z).map vo)), none]) := by
            refine drop_of (d := .none) ?_
            rw [w_mFrz, fz, cn, nd]
            rfl
          unfold sTryR
          rw [s]
          rfl
        obtain ⟨p, hpr, hpc, hok⟩ := pieceD_inv hp
        have hlen : ∀ v ∈ p, v.length ≤ 20000 ∧ ∀ n ∈ v, bigN n := fun v hv => by
          refine ⟨?_, fun n hn => okN_big ((hok.2.2 v hv).1 n hn)⟩
          have : v.map nt ∈ (rowsZ z).map vo := by
            rw [hpr]
            exact List.mem_map_of_mem hv
          obtain ⟨r, hr, er⟩ := List.mem_map.mp this
          have a := vo_len r
          rw [er, List.length_map] at a
          have b := part_len hr
          omega
        have wr : F_written [PD z] = ret (.str (WD ((rowsZ z).map vo))) := by
          rw [hpc, hpr]
          exact F_written_w (by rw [← hpc]; exact hp) hlen
        have t : mFrzT 1 (m2B pyNe (mCall F_written (mCons (mV 1) mNil)) (mV 0)) [some (.imm (.str z)), some (.deep ((rowsZ z).map vo)), none] = ret (!canonZ z) := by
          unfold mFrzT
          rw [fz]
          have cw : mCall F_written (mCons (mV 1) mNil) [some (.imm (.str z)), some (.imm (PD z)), none] = F_written [PD z] := call_of rfl
          rw [w_m2B, cw, wr]
          show pyNe (.str _) (.str z) = _
          rw [str_ne, back_z ok]
        cases hc : canonZ z with
        | false =>
          rw [hc] at t
          rw [if_neg (by decide)]
          exact seq_er (by rw [if_t t]; rfl)
        | true =>
          rw [hc] at t
          rw [if_pos rfl]
          refine seq_eq (by rw [if_f t]; rfl) ?_
          rw [PD_eq]
          rfl
  rw [b]
  cases okZ z <;> rfl
/-! ### the law's note -/
def lnote (p : Str) : Bool := (words p).all (fun w => okW w && canon w) && noteD (tupP p)
def numL (w : Str) : PyData := if (okW w && canon w) = true then .int (val w) else .none
theorem none_in (ds : List PyData) (hp : ∀ d ∈ ds, d.plain = true) : pyIn .none (.list ds) = ret (ds.any fun d => PyData.eqv d .none) := by
  have h : pyIn .none (.list ds) = (if PyData.none.plain = true ∧ PyData.plainAll ds = true ∧ min (PyData.depthAll ds) PyData.none.depth ≤ 60 then ret (ds.any fun z => PyData.eqv z .none) else none) := rfl
  rw [h, if_pos ⟨rfl, pl_list hp, Nat.le_trans (Nat.min_le_right _ _) (by simp [PyData.depth])⟩]
theorem note_tail (v0 v1 v2 : Int) (x0 x3 : Option Sl) : (sSeq (sSet 2 (m2 pyIx (mV 1) (mC (.int 0)))) (sSeq (sIf (mOr (m2B pyLt (mV 2) (mC (.int 0))) (mOr (m2B pyLt (m2 pyIx (mV 1) (mC (.int 1))) (mC (.int 1))) (m2B pyGt (m2 pyAdd (mV 2) (m2 pyIx (mV 1) (mC (.int 1)))) (mC (.int 100000))))) (sRet (mC .none)) sNx) (sSeq (sIf (mNot (mChain pyLe pyLe (m1 pyNeg (mC (.int 200))) (m2 pyIx (mV 1) (mC (.int 2))) (mC (.int 200)))) (sRet (mC .none)) sNx) (sRet (mTup (mCons (mV 2) (mCons (m2 pyIx (mV 1) (mC (.int 1))) (mCons (m2 pyIx (mV 1) (mC (.int 2))) mNil)))))))) [x0, some (.imm (.list [.int v0, .int v1, .int v2])), none, x3] = ret (.rt (if okNB (v0, v1, v2) = true then nt (v0, v1, v2) else .none)) := by
  refine seq_eq (ρ' := [x0, some (.imm (.list [.int v0, .int v1, .int v2])), some (.imm (.int v0)), x3]) rfl ?_
  have t1 : mOr (m2B pyLt (mV 2) (mC (.int 0))) (mOr (m2B pyLt (m2 pyIx (mV 1) (mC (.int 1))) (mC (.int 1))) (m2B pyGt (m2 pyAdd (mV 2) (m2 pyIx (mV 1) (mC (.int 1)))) (mC (.int 100000)))) [x0, some (.imm (.list [.int v0, .int v1, .int v2])), some (.imm (.int v0)), x3] = ret (decide (v0 < 0) || (decide (v1 < 1) || decide (v0 + v1 > 100000))) := by
    have a : m2B pyLt (mV 2) (mC (.int 0)) [x0, some (.imm (.list [.int v0, .int v1, .int v2])), some (.imm (.int v0)), x3] = ret (decide (v0 < 0)) := rfl
    have b : m2B pyLt (m2 pyIx (mV 1) (mC (.int 1))) (mC (.int 1)) [x0, some (.imm (.list [.int v0, .int v1, .int v2])), some (.imm (.int v0)), x3] = ret (decide (v1 < 1)) := rfl
    have c : m2B pyGt (m2 pyAdd (mV 2) (m2 pyIx (mV 1) (mC (.int 1)))) (mC (.int 100000)) [x0, some (.imm (.list [.int v0, .int v1, .int v2])), some (.imm (.int v0)), x3] = ret (decide (v0 + v1 > 100000)) := rfl
    rw [w_mOr, a, bnd_ret, w_mOr, b, bnd_ret, c]
    cases decide (v0 < 0) <;> cases decide (v1 < 1) <;> rfl
  have t2 : mNot (mChain pyLe pyLe (m1 pyNeg (mC (.int 200))) (m2 pyIx (mV 1) (mC (.int 2))) (mC (.int 200))) [x0, some (.imm (.list [.int v0, .int v1, .int v2])), some (.imm (.int v0)), x3] = ret (!(decide (-200 ≤ v2) && decide (v2 ≤ 200))) := by
    show bnd (bnd (ret (decide (-200 ≤ v2))) fun b => match b with
      | true => ret (decide (v2 ≤ 200))
      | false => ret false) _ = _
    cases decide (-200 ≤ v2) <;> rfl
  have key : okNB (v0, v1, v2) = (!(decide (v0 < 0) || (decide (v1 < 1) || decide (v0 + v1 > 100000))) && (decide (-200 ≤ v2) && decide (v2 ≤ 200))) := by
    rw [Bool.eq_iff_iff]
    unfold okNB
    simp only [Bool.and_eq_true, decide_eq_true_eq, Bool.not_eq_true', Bool.or_eq_false_iff, decide_eq_false_iff_not]
    omega
  rw [key]
  cases h1 : (decide (v0 < 0) || (decide (v1 < 1) || decide (v0 + v1 > 100000))) with
  | true =>
    rw [h1] at t1
    rw [show (!true && (decide (-200 ≤ v2) && decide (v2 ≤ 200))) = false from rfl, if_neg (by decide)]
    exact seq_rt (by rw [if_t t1]; rfl)
  | false =>
    rw [h1] at t1
    refine seq_eq (by rw [if_f t1]; rfl) ?_
    cases h2 : (decide (-200 ≤ v2) && decide (v2 ≤ 200)) with
    | false =>
      rw [h2] at t2
      rw [show (!false && false) = false from rfl, if_neg (by decide)]
      exact seq_rt (by rw [if_t t2]; rfl)
    | true =>
      rw [h2] at t2
      rw [show (!false && true) = true from rfl, if_pos rfl]
      exact seq_eq (by rw [if_f t2]; rfl) rfl
theorem F_lnote_w {p : Str} (hp : p.length ≤ 10000) : F__law_noteT [.str p] = ret (if lnote p = true then tupP p else .none) := by
  have e := mLc_map (vs := [3]) (fa := mLs (mM pySplit (mV 0) (mC (.str (PySem.Str.ofString " "))))) (g := tgN 3) (f := mCall F__law_numberT (mCons (mV 3) mNil)) (ρ := [some (.imm (.str p)), none, none, none]) (ds := (words p).map .str)
    (fun d => match d with
      | .str w => numL w
      | _ => .none)
    (split_ls (sep := sepB) rfl sepB_len hp) rfl (by
      have := part_cnt sepB p
      rw [List.length_map]
      show (Txt.split p sepB).length ≤ _
      omega) fun d hd => by
      obtain ⟨w, hw, rfl⟩ := List.mem_map.mp hd
      exact ⟨_, w_tgN, (call_of (F := F__law_numberT) (ds := [.str w]) rfl).trans (F_lnumber_w w (Nat.le_trans (part_len hw) hp))⟩
  rw [List.map_map] at e
  have e2 : mLc [3] (mLs (mM pySplit (mV 0) (mC (.str (PySem.Str.ofString " "))))) (tgN 3) mYes (mCall F__law_numberT (mCons (mV 3) mNil)) [some (.imm (.str p)), none, none, none] = ret ((words p).map numL) := e
  have pl : ∀ d ∈ (words p).map numL, d.plain = true := fun d hd => by
    obtain ⟨w, _, rfl⟩ := List.mem_map.mp hd
    unfold numL
    split <;> rfl
  have ha : ((words p).map numL).any (fun d => PyData.eqv d .none) = !(words p).all fun w => okW w && canon w := by
    rw [List.any_map, List.not_all_eq_any_not]
    congr 1
    funext w
    show PyData.eqv (numL w) .none = _
    unfold numL
    cases okW w && canon w <;> simp [PyData.eqv]
  have t1 : mOr (m2B pyNe (mCall pyLen (mCons (mV 1) mNil)) (mC (.int 3))) (m2B pyIn (mC .none) (mV 1)) [some (.imm (.str p)), some (.imm (.list ((words p).map numL))), none, none] = ret (!decide ((words p).length = 3) || !(words p).all fun w => okW w && canon w) := by
    have a : m2B pyNe (mCall pyLen (mCons (mV 1) mNil)) (mC (.int 3)) [some (.imm (.str p)), some (.imm (.list ((words p).map numL))), none, none] = ret (!decide ((words p).length = 3)) := by
      have l : ∀ xs : List PyData, pyLen [.list xs] = ret (.int (xs.length : Int)) := fun _ => rfl
      show bnd (pyLen [.list ((words p).map numL)]) _ = _
      rw [l, List.length_map]
      show pyNe (.int _) (.int 3) = _
      rw [w_nei]
      congr 1
      by_cases h : (words p).length = 3
      · rw [decide_eq_true h, h]
        rfl
      · rw [decide_eq_false h]
        simp
        omega
    have b : m2B pyIn (mC .none) (mV 1) [some (.imm (.str p)), some (.imm (.list ((words p).map numL))), none, none] = ret (!(words p).all fun w => okW w && canon w) := by
      show pyIn .none (.list ((words p).map numL)) = _
      rw [none_in _ pl, ha]
    rw [w_mOr, a, bnd_ret, b]
    cases decide ((words p).length = 3) <;> rfl
  refine fnD_of ?_
  show m__law_noteT [some (.imm (.str p)), none, none, none] = _
  unfold m__law_noteT
  refine seq_eq (ρ' := [some (.imm (.str p)), some (.imm (.list ((words p).map numL))), none, none]) (set_of (by rw [w_mL, e2]; rfl)) ?_
  by_cases h3 : (words p).length = 3
  · cases hall : (words p).all fun w => okW w && canon w with
    | false =>
      rw [hall] at t1
      have : lnote p = false := by unfold lnote; rw [hall]; rfl
      rw [this, if_neg (by decide)]
      exact seq_rt (by rw [if_t (by rw [t1, decide_eq_true h3]; rfl)]; rfl)
    | true =>
      rw [hall, decide_eq_true h3] at t1
      refine seq_eq (by rw [if_f t1]; rfl) ?_
      obtain ⟨w0, w1, w2, ew⟩ : ∃ w0 w1 w2, words p = [w0, w1, w2] := by
        match h : words p, h3 with
        | [a, b, c], _ => exact ⟨a, b, c, rfl⟩
      have et : tupP p = nt (val w0, val w1, val w2) := by
        unfold tupP
        rw [ew]
        rfl
      have en : (words p).map numL = [.int (val w0), .int (val w1), .int (val w2)] := by
        have hw := List.all_eq_true.mp hall
        rw [ew] at hw ⊢
        have q : ∀ w ∈ [w0, w1, w2], numL w = .int (val w) := fun w hm => if_pos (hw w hm)
        rw [List.map_cons, List.map_cons, List.map_cons, List.map_nil, q w0 (by simp), q w1 (by simp), q w2 (by simp)]
      have el : lnote p = okNB (val w0, val w1, val w2) := by
        unfold lnote
        rw [hall, Bool.true_and, et, noteD_nt]
      rw [en, el, et]
      exact note_tail _ _ _ _ _
  · rw [decide_eq_false h3] at t1
    have : lnote p = false := by
      unfold lnote
      have : noteD (tupP p) = false := by
        unfold noteD
        have : ntOf (tupP p) = none := by
          cases hn : ntOf (tupP p) with
          | none => rfl
          | some n =>
            have q := ntOf_some hn
            unfold tupP nt at q
            injection q with q
            have := congrArg List.length q
            rw [List.length_map] at this
            exact absurd this h3
        rw [this]
      rw [this, Bool.and_false]
    rw [this, if_neg (by decide)]
    exact seq_rt (by rw [if_t t1]; rfl)
/-! ### one after the other -/
def adjB : List Nt → Bool
  | [] => true
  | [_] => true
  | n :: k :: r => decide (n.1 + n.2.1 ≤ k.1) && adjB (k :: r)
theorem voice_adj : ∀ (v : List Nt) (e : Int), (∀ n ∈ v, okN n) → voiceL e (v.map nt) = ((match v with
    | [] => true
    | n :: _ => decide (e ≤ n.1)) && adjB v)
  | [], e, _ => rfl
  | [n], e, h => by
    rw [List.map_cons, voiceL_nt, okNB_iff.mpr (h n List.mem_cons_self)]
    rfl
  | n :: k :: r, e, h => by
    have ih := voice_adj (k :: r) (n.1 + n.2.1) fun x hx => h x (List.mem_cons_of_mem _ hx)
    rw [List.map_cons, voiceL_nt, okNB_iff.mpr (h n List.mem_cons_self), ih]
    rfl
theorem voice0 {v : List Nt} (h : ∀ n ∈ v, okN n) : voiceD (vc v) = adjB v := by
  show voiceL 0 (v.map nt) = _
  rw [voice_adj v 0 h]
  cases v with
  | nil => rfl
  | cons n r =>
    show (decide (0 ≤ n.1) && adjB (n :: r)) = _
    rw [decide_eq_true (h n List.mem_cons_self).1, Bool.true_and]
theorem loop_ord (a b c : Option Sl) (v : List Nt) : ∀ (k s : Nat) (x : Option Sl), 1 ≤ s → s + k = v.length → ∃ x', loopM (tgN 4) lb__law_piece_of_2 ((List.range k).map fun y : Nat => PyData.int ((s : Int) + (y : Int))) [a, b, c, some (.imm (vc v)), x, none] = if adjB (v.drop (s - 1)) = true then ret (.nx [a, b, c, some (.imm (vc v)), x', none]) else ret (.rt .none)
  | 0, s, x, hs, hk => by
    refine ⟨x, ?_⟩
    have hd : v.drop (s - 1) = [v[s - 1]'(by omega)] := by
      rw [List.drop_eq_getElem_cons (by omega), show s - 1 + 1 = v.length by omega, List.drop_length]
    rw [hd]
    rfl
  | k + 1, s, x, hs, hk => by
    have h1 : s - 1 < v.length := by omega
    have h2 : s < v.length := by omega
    have hd : v.drop (s - 1) = v[s - 1] :: v[s] :: v.drop (s + 1) := by
      rw [List.drop_eq_getElem_cons h1]
      congr 1
      rw [show s - 1 + 1 = s by omega, List.drop_eq_getElem_cons h2]
    have hd2 : v.drop s = v[s] :: v.drop (s + 1) := List.drop_eq_getElem_cons h2
    have er : (List.range (k + 1)).map (fun y : Nat => PyData.int ((s : Int) + (y : Int))) = .int (s : Int) :: (List.range k).map fun y : Nat => PyData.int (((s + 1 : Nat) : Int) + (y : Int)) := by
      rw [List.range_succ_eq_map, List.map_cons, List.map_map]
      congr 1
      apply List.map_congr_left
      intro y _
      show PyData.int ((s : Int) + ((y + 1 : Nat) : Int)) = _
      congr 1
      omega
    have i1 : pyIx (vc v) (.int ((s : Int) - 1)) = ret (nt v[s - 1]) := by
      rw [show ((s : Int) - 1) = ((s - 1 : Nat) : Int) by omega]
      exact w_ixl (vc_get (List.getElem?_eq_getElem h1))
    have i2 : pyIx (vc v) (.int (s : Int)) = ret (nt v[s]) := w_ixl (vc_get (List.getElem?_eq_getElem h2))
    have t : m2B pyGt (m2 pyAdd (m2 pyIx (m2 pyIx (mV 3) (m2 pySub (mV 4) (mC (.int 1)))) (mC (.int 0))) (m2 pyIx (m2 pyIx (mV 3) (m2 pySub (mV 4) (mC (.int 1)))) (mC (.int 1)))) (m2 pyIx (m2 pyIx (mV 3) (mV 4)) (mC (.int 0))) [a, b, c, some (.imm (vc v)), some (.imm (.int (s : Int))), none] = ret (decide (v[s].1 < v[s - 1].1 + v[s - 1].2.1)) := by
      simp only [w_m2B, w_m2, w_mVs, w_mV0, w_mC, bnd_ret, w_subi, i1, i2, nt0, nt1, w_addi]
      rfl
    rw [hd, er]
    show ∃ x', _ = if (decide (v[s - 1].1 + v[s - 1].2.1 ≤ v[s].1) && adjB (v[s] :: v.drop (s + 1))) = true then _ else _
    by_cases hc : v[s - 1].1 + v[s - 1].2.1 ≤ v[s].1
    · obtain ⟨x', ih⟩ := loop_ord a b c v k (s + 1) (some (.imm (.int (s : Int)))) (by omega) (by omega)
      rw [show s + 1 - 1 = s by omega, hd2] at ih
      have st : lb__law_piece_of_2 [a, b, c, some (.imm (vc v)), some (.imm (.int (s : Int))), none] = ret (.nx [a, b, c, some (.imm (vc v)), some (.imm (.int (s : Int))), none]) := by
        unfold lb__law_piece_of_2
        rw [if_f (by rw [t, decide_eq_false (by omega)])]
        rfl
      refine ⟨x', ?_⟩
      rw [loop_step (w_tgN) st, decide_eq_true hc, Bool.true_and]
      exact ih
    · refine ⟨none, ?_⟩
      have st : lb__law_piece_of_2 [a, b, c, some (.imm (vc v)), some (.imm (.int (s : Int))), none] = ret (.rt .none) := by
        unfold lb__law_piece_of_2
        rw [if_t (by rw [t, decide_eq_true (by omega)])]
        rfl
      rw [loop_step (w_tgN) st, decide_eq_false hc, Bool.false_and]
      rfl

end VW
namespace VW
open PySem PySem.Spec PyProof.Rows L2
/-! ### the law's rows -/
def lrow (r : Str) : Bool := (r == sE) || ((parts r).all lnote && voiceD (.list (vo r)))
theorem notes_inv : ∀ {l : List Str}, l.all lnote = true → ∃ v : List Nt, l.map tupP = v.map nt ∧ ∀ n ∈ v, okN n
  | [], _ => ⟨[], rfl, fun n hn => (nomatch hn)⟩
  | p :: l, h => by
    rw [List.all_cons, Bool.and_eq_true] at h
    have h1 := h.1
    unfold lnote at h1
    rw [Bool.and_eq_true] at h1
    obtain ⟨n, en, on⟩ := noteD_true h1.2
    obtain ⟨v, ev, ov⟩ := notes_inv h.2
    refine ⟨n :: v, by rw [List.map_cons, List.map_cons, en, ev], fun k hk => ?_⟩
    rcases List.mem_cons.mp hk with rfl | hk
    · exact on
    · exact ov k hk
theorem ord_loop (S a c : Option Sl) (v : List Nt) (hv : v.length ≤ 100000) (x4 : Option Sl) : ∃ y4, sFor (tgN 4) (mRng2 (mCons (mC (.int 1)) (mCons (mCall pyLen (mCons (mV 3) mNil)) mNil))) lb__law_piece_of_2 [S, a, c, some (.imm (vc v)), x4, none] = if adjB v = true then ret (.nx [S, a, c, some (.imm (vc v)), y4, none]) else ret (.rt .none) := by
  have h0 : (mCons (mC (.int 1)) (mCons (mCall pyLen (mCons (mV 3) mNil)) mNil)) [S, a, c, some (.imm (vc v)), x4, none] = ret [.int 1, .int (v.length : Int)] := by
    have l : ∀ xs : List PyData, pyLen [.list xs] = ret (.int (xs.length : Int)) := fun _ => rfl
    have q : mCall pyLen (mCons (mV 3) mNil) [S, a, c, some (.imm (vc v)), x4, none] = ret (.int (v.length : Int)) := (call_of (F := pyLen) (ds := [vc v]) rfl).trans (by
      show pyLen [.list (v.map nt)] = _
      rw [l, List.length_map])
    simp only [w_mCons, w_mC, w_mNil, q, bnd_ret]
  have hr := rng2_of h0 ⟨by omega, by omega, by omega, by omega⟩
  cases hv0 : v with
  | nil =>
    subst hv0
    refine ⟨x4, ?_⟩
    rw [w_sFor, hr, bnd_ret]
    rfl
  | cons n r =>
    have hl : 1 + (v.length - 1) = v.length := by rw [hv0]; simp; omega
    obtain ⟨y, hy⟩ := loop_ord S a c v (v.length - 1) 1 x4 (Nat.le_refl _) hl
    rw [← hv0]
    refine ⟨y, ?_⟩
    rw [w_sFor, hr, bnd_ret]
    have e : (((v.length : Int) - 1).toNat) = v.length - 1 := by omega
    rw [e]
    exact hy
theorem row_step (S : Option Sl) (acc : List PyData) (r : Str) (hr : r.length ≤ 10000) (x3 x4 : Option Sl) (hacc : acc.length < 16777216) : ∃ y3 y4, lb__law_piece_of_1 [S, some (.own acc), some (.imm (.str r)), x3, x4, none] = if lrow r = true then ret (.nx [S, some (.own (acc ++ [.list (vo r)])), some (.imm (.str r)), y3, y4, none]) else ret (.rt .none) := by
  have t1 : m2B pyNe (mV 2) (mC (.str (PySem.Str.ofString ""))) [S, some (.own acc), some (.imm (.str r)), some (.imm (.list [])), x4, none] = ret (!(r == sE)) := str_ne r sE
  have fin : ∀ (v : List Nt) (y4 : Option Sl), sApp 1 (mV 3) [S, some (.own acc), some (.imm (.str r)), some (.imm (vc v)), y4, none] = ret (.nx [S, some (.own (acc ++ [vc v])), some (.imm (.str r)), some (.imm (vc v)), y4, none]) := fun v y4 => by
    rw [app_of (i := 1) (ds := acc) rfl]
    show (if acc.length < 16777216 then _ else _) = _
    rw [if_pos hacc]
    rfl
  unfold lrow vo
  cases h : r == sE with
  | true =>
    rw [h] at t1
    obtain ⟨y4, hy⟩ := ord_loop S (some (.own acc)) (some (.imm (.str r))) [] (by decide) x4
    refine ⟨some (.imm (vc [])), y4, ?_⟩
    rw [Bool.true_or, if_pos rfl]
    unfold lb__law_piece_of_1
    refine seq_eq (ρ' := [S, some (.own acc), some (.imm (.str r)), some (.imm (vc [])), x4, none]) rfl ?_
    refine seq_eq (ρ' := [S, some (.own acc), some (.imm (.str r)), some (.imm (vc [])), x4, none]) ?_ ?_
    · exact (if_f t1).trans rfl
    have t2 : m2B pyIn (mC .none) (mV 3) [S, some (.own acc), some (.imm (.str r)), some (.imm (vc [])), x4, none] = ret false := by
      show pyIn .none (.list []) = _
      rw [none_in [] (fun d hd => (nomatch hd))]
      rfl
    refine seq_eq (by rw [if_f t2]; rfl) ?_
    refine seq_eq hy ?_
    exact fin [] y4
  | false =>
    rw [h] at t1
    rw [Bool.false_or, show (if false = true then [] else (parts r).map tupP) = (parts r).map tupP from rfl]
    have e := mLc_map (vs := [5]) (fa := mLs (mM pySplit (mV 2) (mC (.str (PySem.Str.ofString "; "))))) (g := tgN 5) (f := mCall F__law_noteT (mCons (mV 5) mNil)) (ρ := [S, some (.own acc), some (.imm (.str r)), some (.imm (.list [])), x4, none]) (ds := (parts r).map .str)
      (fun d => match d with
        | .str p => if lnote p = true then tupP p else .none
        | _ => .none)
      (split_ls (sep := sepS) rfl sepS_len hr) rfl (by
        have := part_cnt sepS r
        rw [List.length_map]
        show (Txt.split r sepS).length ≤ _
        omega) fun d hd => by
        obtain ⟨p, hp, rfl⟩ := List.mem_map.mp hd
        exact ⟨_, w_tgN, (call_of (F := F__law_noteT) (ds := [.str p]) rfl).trans (F_lnote_w (Nat.le_trans (part_len hp) hr))⟩
    rw [List.map_map] at e
    have e2 : mLc [5] (mLs (mM pySplit (mV 2) (mC (.str (PySem.Str.ofString "; "))))) (tgN 5) mYes (mCall F__law_noteT (mCons (mV 5) mNil)) [S, some (.own acc), some (.imm (.str r)), some (.imm (.list [])), x4, none] = ret ((parts r).map fun p => if lnote p = true then tupP p else .none) := e
    have pl : ∀ d ∈ (parts r).map (fun p => if lnote p = true then tupP p else PyData.none), d.plain = true := fun d hd => by
      obtain ⟨p, _, rfl⟩ := List.mem_map.mp hd
      show (if lnote p = true then tupP p else PyData.none).plain = true
      split
      · show PyData.plainAll _ = true
        exact pl_list fun x hx => by
          obtain ⟨w, _, rfl⟩ := List.mem_map.mp hx
          rfl
      · rfl
    have ha : ((parts r).map (fun p => if lnote p = true then tupP p else PyData.none)).any (fun d => PyData.eqv d .none) = !(parts r).all lnote := by
      rw [List.any_map, List.not_all_eq_any_not]
      congr 1
      funext p
      show PyData.eqv (if lnote p = true then tupP p else PyData.none) .none = _
      cases lnote p
      · simp [PyData.eqv]
      · simp [tupP, PyData.eqv]
    have t2 : m2B pyIn (mC .none) (mV 3) [S, some (.own acc), some (.imm (.str r)), some (.imm (.list ((parts r).map fun p => if lnote p = true then tupP p else .none))), x4, none] = ret (!(parts r).all lnote) := by
      show pyIn .none (.list _) = _
      rw [none_in _ pl, ha]
    have s2 : sIf (m2B pyNe (mV 2) (mC (.str (PySem.Str.ofString "")))) (sSet 3 (mL (mLc [5] (mLs (mM pySplit (mV 2) (mC (.str (PySem.Str.ofString "; "))))) (tgN 5) mYes (mCall F__law_noteT (mCons (mV 5) mNil))))) sNx [S, some (.own acc), some (.imm (.str r)), some (.imm (.list [])), x4, none] = ret (.nx [S, some (.own acc), some (.imm (.str r)), some (.imm (.list ((parts r).map fun p => if lnote p = true then tupP p else .none))), x4, none]) := by
      rw [if_t t1]
      exact set_of (by rw [w_mL, e2]; rfl)
    cases hall : (parts r).all lnote with
    | false =>
      rw [hall] at t2
      refine ⟨none, none, ?_⟩
      rw [Bool.false_and, if_neg (by decide)]
      unfold lb__law_piece_of_1
      refine seq_eq (ρ' := [S, some (.own acc), some (.imm (.str r)), some (.imm (.list [])), x4, none]) rfl ?_
      refine seq_eq s2 ?_
      exact seq_rt (by rw [if_t t2]; rfl)
    | true =>
      rw [hall] at t2
      have en : ((parts r).map fun p => if lnote p = true then tupP p else PyData.none) = (parts r).map tupP := List.map_congr_left fun p hp => if_pos (List.all_eq_true.mp hall p hp)
      obtain ⟨v, ev, ov⟩ := notes_inv hall
      rw [en, ev] at t2 s2
      have lv : v.length ≤ 100000 := by
        have := congrArg List.length ev
        rw [List.length_map, List.length_map] at this
        have := part_cnt sepS r
        unfold parts at *
        omega
      obtain ⟨y4, hy⟩ := ord_loop S (some (.own acc)) (some (.imm (.str r))) v lv x4
      refine ⟨some (.imm (vc v)), y4, ?_⟩
      rw [Bool.true_and, ev]
      have va : voiceD (.list (v.map nt)) = adjB v := voice0 ov
      rw [va]
      unfold lb__law_piece_of_1
      refine seq_eq (ρ' := [S, some (.own acc), some (.imm (.str r)), some (.imm (.list [])), x4, none]) rfl ?_
      refine seq_eq s2 ?_
      refine seq_eq (by rw [if_f t2]; rfl) ?_
      cases hadj : adjB v with
      | false =>
        rw [hadj, if_neg (by decide)] at hy
        rw [if_neg (by decide)]
        exact seq_rt hy
      | true =>
        rw [hadj, if_pos rfl] at hy
        rw [if_pos rfl]
        exact seq_eq hy (fin v y4)
theorem loop_rows (S : Option Sl) : ∀ (l : List Str) (acc : List PyData) (x2 x3 x4 : Option Sl), (∀ r ∈ l, r.length ≤ 10000) → acc.length + l.length ≤ 100000 → ∃ y2 y3 y4, loopM (tgN 2) lb__law_piece_of_1 (l.map .str) [S, some (.own acc), x2, x3, x4, none] = if l.all lrow = true then ret (.nx [S, some (.own (acc ++ l.map fun r => .list (vo r))), y2, y3, y4, none]) else ret (.rt .none)
  | [], acc, x2, x3, x4, _, _ => ⟨x2, x3, x4, by rw [List.map_nil, List.map_nil, List.append_nil]; rfl⟩
  | r :: l, acc, x2, x3, x4, h, hl => by
    rw [List.length_cons] at hl
    obtain ⟨y3, y4, st⟩ := row_step S acc r (h r List.mem_cons_self) x3 x4 (by omega)
    rw [List.all_cons]
    cases hr : lrow r with
    | false =>
      rw [hr, if_neg (by decide)] at st
      refine ⟨none, none, none, ?_⟩
      rw [Bool.false_and, if_neg (by decide), List.map_cons, loop_step (b := lb__law_piece_of_1) (ρ1 := [S, some (.own acc), some (.imm (.str r)), x3, x4, none]) rfl st]
      rfl
    | true =>
      rw [hr, if_pos rfl] at st
      obtain ⟨z2, z3, z4, ih⟩ := loop_rows S l (acc ++ [.list (vo r)]) (some (.imm (.str r))) y3 y4 (fun s hs => h s (List.mem_cons_of_mem _ hs)) (by rw [List.length_append]; show acc.length + 1 + _ ≤ _; omega)
      refine ⟨z2, z3, z4, ?_⟩
      rw [Bool.true_and, List.map_cons, loop_step (b := lb__law_piece_of_1) (ρ1 := [S, some (.own acc), some (.imm (.str r)), x3, x4, none]) rfl st]
      refine Eq.trans ih ?_
      rw [List.map_cons, List.append_assoc]
      rfl
theorem F_piece_of_w {z : Str} (hz : z.length ≤ 8000) : F__law_piece_of [.str z] = ret (if ((rowsZ z).all lrow && decide ((rowsZ z).length ≤ 6)) = true then PD z else .none) := by
  have hc := part_cnt sepN z
  have hc' : (rowsZ z).length ≤ z.length + 2 := hc
  obtain ⟨y2, y3, y4, hl⟩ := loop_rows (some (.imm (.str z))) (rowsZ z) [] none none none (fun r hr => Nat.le_trans (part_len hr) (by omega)) (by show 0 + _ ≤ _; omega)
  have hs : sFor (tgN 2) (mLs (mM pySplit (mV 0) (mC (.str (PySem.Str.ofString "\n"))))) lb__law_piece_of_1 [some (.imm (.str z)), some (.own []), none, none, none, none] = loopM (tgN 2) lb__law_piece_of_1 ((rowsZ z).map .str) [some (.imm (.str z)), some (.own []), none, none, none, none] := by
    have hsp := split_ls (i := 0) (ρ := [some (.imm (.str z)), some (.own []), none, none, none, none]) (r := z) (sep := sepN) rfl sepN_len (by omega)
    rw [w_sFor]
    exact (congrArg (fun m : M (List PyData) => bnd m fun ds => loopM (tgN 2) lb__law_piece_of_1 ds [some (.imm (.str z)), some (.own []), none, none, none, none]) hsp).trans rfl
  rw [hl] at hs
  refine fnD_of ?_
  show m__law_piece_of [some (.imm (.str z)), none, none, none, none, none] = _
  unfold m__law_piece_of
  refine seq_eq (ρ' := [some (.imm (.str z)), some (.own []), none, none, none, none]) rfl ?_
  cases ha : (rowsZ z).all lrow with
  | false =>
    rw [ha, if_neg (by decide)] at hs
    rw [Bool.false_and, if_neg (by decide)]
    exact seq_rt hs
  | true =>
    rw [ha, if_pos rfl] at hs
    rw [Bool.true_and]
    refine seq_eq hs ?_
    rw [w_sFrz, w_frzs, w_frz0o, List.nil_append]
    have t : m2B pyGt (mCall pyLen (mCons (mV 1) mNil)) (mC (.int 6)) [some (.imm (.str z)), some (.imm (.list ((rowsZ z).map fun r => PyData.list (vo r)))), y2, y3, y4, none] = ret (!decide ((rowsZ z).length ≤ 6)) := by
      have l : ∀ xs : List PyData, pyLen [.list xs] = ret (.int (xs.length : Int)) := fun _ => rfl
      show bnd (pyLen [.list _]) _ = _
      rw [l, List.length_map]
      show ret (decide (((rowsZ z).length : Int) > 6)) = _
      congr 1
      by_cases h : (rowsZ z).length ≤ 6
      · rw [decide_eq_true h, decide_eq_false (by omega)]
        rfl
      · rw [decide_eq_false h, decide_eq_true (by omega)]
        rfl
    cases h6 : decide ((rowsZ z).length ≤ 6) with
    | false =>
      rw [h6] at t
      rw [if_neg (by decide)]
      exact seq_rt (by rw [if_t t]; rfl)
    | true =>
      rw [h6] at t
      rw [if_pos rfl]
      exact seq_eq (by rw [if_f t]; rfl) rfl
/-! ### both say the same -/
theorem voice_notes : ∀ {ds : List PyData} {e : Int}, voiceL e ds = true → ds.all noteD = true
  | [], _, _ => rfl
  | d :: ds, e, h => by
    cases hd : ntOf d with
    | none =>
      rw [voiceL_no hd] at h
      cases h
    | some n =>
      have := ntOf_some hd
      subst this
      rw [voiceL_nt, Bool.and_eq_true, Bool.and_eq_true] at h
      rw [List.all_cons, noteD_nt, h.1, Bool.true_and]
      exact voice_notes h.2.2
theorem lrow_eq (r : Str) : lrow r = (okR r && (canonR r && voiceD (.list (vo r)))) := by
  unfold lrow okR canonR vo
  cases h : r == sE with
  | true =>
    rw [if_pos rfl]
    rfl
  | false =>
    rw [Bool.false_or, Bool.false_or, Bool.false_or, show (if false = true then [] else (parts r).map tupP) = (parts r).map tupP from rfl]
    rw [Bool.eq_iff_iff]
    simp only [Bool.and_eq_true]
    constructor
    · rintro ⟨h1, h2⟩
      have q : ∀ p ∈ parts r, okPt p = true ∧ canonPt p = true := fun p hp => by
        have := List.all_eq_true.mp h1 p hp
        unfold lnote at this
        rw [Bool.and_eq_true, List.all_eq_true] at this
        refine ⟨List.all_eq_true.mpr fun w hw => ?_, List.all_eq_true.mpr fun w hw => ?_⟩
        · exact (Bool.and_eq_true _ _ ▸ this.1 w hw).1
        · exact (Bool.and_eq_true _ _ ▸ this.1 w hw).2
      exact ⟨List.all_eq_true.mpr fun p hp => (q p hp).1, List.all_eq_true.mpr fun p hp => (q p hp).2, h2⟩
    · rintro ⟨h1, h2, h3⟩
      refine ⟨List.all_eq_true.mpr fun p hp => ?_, h3⟩
      have hn : ((parts r).map tupP).all noteD = true := voice_notes (e := 0) h3
      unfold lnote
      rw [Bool.and_eq_true]
      refine ⟨List.all_eq_true.mpr fun w hw => ?_, List.all_eq_true.mp hn _ (List.mem_map_of_mem hp)⟩
      rw [Bool.and_eq_true]
      exact ⟨List.all_eq_true.mp (List.all_eq_true.mp h1 p hp) w hw, List.all_eq_true.mp (List.all_eq_true.mp h2 p hp) w hw⟩
theorem okZ_eq (z : Str) : okZ z = ((rowsZ z).all lrow && decide ((rowsZ z).length ≤ 6)) := by
  have hp : pieceD (PD z) = (decide (1 ≤ ((rowsZ z).map fun r => PyData.list (vo r)).length ∧ ((rowsZ z).map fun r => PyData.list (vo r)).length ≤ 6) && ((rowsZ z).map fun r => PyData.list (vo r)).all voiceD) := rfl
  have h1 : 1 ≤ (rowsZ z).length := split_pos z sepN
  unfold okZ canonZ
  rw [hp, List.length_map, List.all_map, Bool.eq_iff_iff]
  simp only [Bool.and_eq_true, List.all_eq_true, decide_eq_true_eq, lrow_eq]
  constructor
  · rintro ⟨a, ⟨⟨b, c⟩, d⟩, e⟩
    exact ⟨fun r hr => ⟨a r hr, e r hr, d r hr⟩, c⟩
  · rintro ⟨a, c⟩
    exact ⟨fun r hr => (a r hr).1, ⟨⟨h1, c⟩, fun r hr => (a r hr).2.2⟩, fun r hr => (a r hr).2.1⟩
/-! ### shown -/
theorem loop_shown (D : PyData) : ∀ (p : List (List Nt)) (acc : List Str) (x2 x3 : Option Sl), plainAt [x2, x3] 0 = true → (∀ v ∈ p, v.length ≤ 20000 ∧ ∀ n ∈ v, bigN n) → acc.length + p.length ≤ 1000 → ∃ x2' x3', loopM (tgN 2) lb__law_shown_1 (p.map vc) [some (.imm D), some (.own (acc.map .str)), x2, x3, none, none] = ret (.nx [some (.imm D), some (.own ((acc ++ p.map fun v => vTxt (v.map nt)).map .str)), x2', x3', none, none])
  | [], acc, x2, x3, _, _, _ => ⟨x2, x3, by rw [List.map_nil, List.map_nil, List.append_nil]; rfl⟩
  | v :: p, acc, x2, x3, _, h, hl => by
    rw [List.length_cons] at hl
    have hv := h v List.mem_cons_self
    obtain ⟨x2', x3', ih⟩ := loop_shown D p (acc ++ [vTxt (v.map nt)]) (some (.imm (vc v))) (some (.imm (.list ((v.map fun n => dTxt (nt n)).map .str)))) rfl (fun w hw => h w (List.mem_cons_of_mem _ hw)) (by rw [List.length_append]; show acc.length + 1 + _ ≤ _; omega)
    refine ⟨x2', x3', ?_⟩
    have st : lb__law_shown_1 [some (.imm D), some (.own (acc.map .str)), some (.imm (vc v)), x3, none, none] = ret (.nx [some (.imm D), some (.own ((acc ++ [vTxt (v.map nt)]).map .str)), some (.imm (vc v)), some (.imm (.list ((v.map fun n => dTxt (nt n)).map .str))), none, none]) := by
      unfold lb__law_shown_1
      have e := voice_txts (i := 2) (j := 4) (k := 5) (ρ := [some (.imm D), some (.own (acc.map .str)), some (.imm (vc v)), x3, none, none]) hv.2 hv.1 rfl rfl (by show 4 < 6; decide) rfl (by show 5 < 6; decide) (by decide)
      refine seq_eq (ρ' := [some (.imm D), some (.own (acc.map .str)), some (.imm (vc v)), some (.imm (.list ((v.map fun n => dTxt (nt n)).map .str))), none, none]) (set_of (by rw [w_mL, e]; rfl)) ?_
      have q : mM pyJoin (mC (.str (PySem.Str.ofString "; "))) (mV 3) [some (.imm D), some (.own (acc.map .str)), some (.imm (vc v)), some (.imm (.list ((v.map fun n => dTxt (nt n)).map .str))), none, none] = ret (.str (vTxt (v.map nt))) := by
        refine (mM_of (a := sepS) (d := .list ((v.map fun n => dTxt (nt n)).map .str)) rfl rfl).trans ?_
        have a := sum_bound (fun n => dTxt (nt n)) 23 v fun n hn => note_len (hv.2 n hn)
        have j := join_of (sep := sepS) (ys := v.map fun n => dTxt (nt n)) (by rw [sepS_2, List.length_map]; omega)
        have e2 : vTxt (v.map nt) = Str.join sepS (v.map fun n => dTxt (nt n)) := by
          unfold vTxt
          rw [List.map_map]
          rfl
        rw [e2]
        exact j
      rw [app_of (i := 1) (ds := acc.map .str) rfl, q, bnd_ret, if_pos (by rw [List.length_map]; omega), List.map_append]
      rfl
    rw [List.map_cons, loop_step (b := lb__law_shown_1) (ρ1 := [some (.imm D), some (.own (acc.map .str)), some (.imm (vc v)), x3, none, none]) rfl st]
    refine Eq.trans ih ?_
    rw [List.map_cons, List.append_assoc]
    rfl
theorem WD_pc (p : List (List Nt)) : WD (p.map (List.map nt)) = Str.join sepN (p.map fun v => vTxt (v.map nt)) := by
  unfold WD
  rw [List.map_map]
  rfl
theorem F_shown_w {p : List (List Nt)} (h6 : p.length ≤ 6) (hv : ∀ v ∈ p, v.length ≤ 20000 ∧ ∀ n ∈ v, bigN n) : F__law_shown [pc p] = ret (.str (WD (p.map (List.map nt)))) := by
  obtain ⟨x2, x3, hl⟩ := loop_shown (pc p) p [] none none rfl hv (by show 0 + _ ≤ _; omega)
  refine fnD_of ?_
  show m__law_shown [some (.imm (pc p)), none, none, none, none, none] = _
  unfold m__law_shown
  refine seq_eq (ρ' := [some (.imm (pc p)), some (.own []), none, none, none, none]) rfl ?_
  refine seq_eq hl ?_
  rw [w_sFrz, w_frzs, w_frz0o, List.nil_append]
  refine ret_of ?_
  have s : ∀ v ∈ p, (vTxt (v.map nt)).length ≤ 500000 := fun v hv' => by
    have := voice_len (hv v hv').2
    have := (hv v hv').1
    omega
  have a := sum_bound (fun v : List Nt => vTxt (v.map nt)) 500000 p s
  have j := join_of (sep := sepN) (ys := p.map fun v => vTxt (v.map nt)) (by
    rw [sepN_1, List.length_map]
    omega)
  rw [WD_pc]
  exact j
theorem WD_len {p : List (List Nt)} (h6 : p.length ≤ 6) (hv : ∀ v ∈ p, v.length ≤ 40 ∧ ∀ n ∈ v, bigN n) : (WD (p.map (List.map nt))).length ≤ 6100 := by
  have s : ∀ v ∈ p, (vTxt (v.map nt)).length ≤ 1000 := fun v hv' => by
    have := voice_len (hv v hv').2
    have := (hv v hv').1
    omega
  have a := sum_bound (fun v : List Nt => vTxt (v.map nt)) 1000 p s
  rw [WD_pc, jn_len, sepN_1, List.length_map]
  omega
end VW
namespace VW
open PySem PySem.Spec PyProof.Rows L2

/-! ### a changed text -/
def OD : List PyData := [PyData.str (PySem.Str.ofString "0 1"), PyData.str (PySem.Str.ofString "0 1 0 0"), PyData.str (PySem.Str.ofString "0 1 0;"), PyData.str (PySem.Str.ofString "0 1 0; "), PyData.str (PySem.Str.ofString "; 0 1 0"), PyData.str (PySem.Str.ofString "0 1 0;0 1 0"), PyData.str (PySem.Str.ofString " 0 1 0"), PyData.str (PySem.Str.ofString "0 1 0 "), PyData.str (PySem.Str.ofString " "), PyData.str (PySem.Str.ofString "0 1 0\n "), PyData.str (PySem.Str.ofString "1_0 1 0"), PyData.str (PySem.Str.ofString "0 1 0 |; 2 1 0"), PyData.str (PySem.Str.ofString "0 1 0|"), PyData.str (PySem.Str.ofString "0 1 0\n"), PyData.str (PySem.Str.ofString "00 1 0"), PyData.str (PySem.Str.ofString "0 1 -0"), PyData.str (PySem.Str.ofString "0 0 0"), PyData.str (PySem.Str.ofString "0 1 201"), PyData.str (PySem.Str.ofString "100000 1 0"), PyData.str (PySem.Str.ofString "0 2 0; 1 1 0"), PyData.str (PySem.Str.ofString "\n\n\n\n\n\n")]
def SM : Str := (PySem.Str.ofString " !\"#$&'()*+,-./0123456789:;<=>?@ABCDEFGHIJKLMNOPQRSTUVWXYZ[\\]^_`") ++ (PySem.Str.ofString "abcdefghijklmnopqrstuvwxyz{|}~\n\t")
theorem SM_len : SM.length = 96 := by decide +kernel
theorem ix_s {z : Str} {i : Int} (h : 0 ≤ i ∧ i < z.length) (hz : z.length ≤ 16777216) : ∃ c, pyIx (.str z) (.int i) = ret (.str ⟨#[c]⟩) := by
  obtain ⟨n, rfl⟩ := Int.eq_ofNat_of_zero_le h.1
  have hn : n < (cs z).length := by rw [cs_len]; omega
  refine ⟨(cs z)[n], ?_⟩
  show (if z.length ≤ 16777216 then ofO (atI (cs z) ((n : Nat) : Int)) _ else none) = _
  rw [if_pos hz, atI_nat (v := (cs z)[n]) (List.getElem?_eq_getElem hn)]
  rfl
theorem OD_str : ∀ d ∈ OD, ∃ s : Str, d = .str s ∧ s.length ≤ 20 := by
  intro d hd
  unfold OD at hd
  simp only [List.mem_cons, List.not_mem_nil, or_false] at hd
  rcases hd with rfl | rfl | rfl | rfl | rfl | rfl | rfl | rfl | rfl | rfl | rfl | rfl | rfl | rfl | rfl | rfl | rfl | rfl | rfl | rfl | rfl <;> exact ⟨_, rfl, by decide +kernel⟩
theorem cutTo_len (z : Str) (A : Nat) : (cutS z none (some (A : Int))).length ≤ A := by
  rw [← cs_len, cutS_cs, cut_to, List.length_take]
  omega
theorem cutFrom_len (z : Str) (A : Nat) : (cutS z (some (A : Int)) none).length = z.length - A := by
  rw [← cs_len, cutS_cs, cut_from, List.length_drop, cs_len]
theorem add_str {x y : Str} (h : x.length + y.length ≤ 16777216) : pyAdd (.str x) (.str y) = ret (.str (x ++ y)) := if_pos h
theorem F_bent_w {z : Str} (hz : z.length ≤ 7000) (way num : Int) : ∃ z' : Str, F__law_bent [.str z, .int way, .int num] = ret (.str z') ∧ z'.length ≤ z.length + 20 := by
  have r1 := Int.emod_nonneg num (show ((z.length : Int) + 1) ≠ 0 by omega)
  have r2 := Int.emod_lt_of_pos num (show (0 : Int) < (z.length : Int) + 1 by omega)
  have m1 := w_modi (i := num) (j := (z.length : Int) + 1) (by omega)
  have d1 := w_divi (i := num) (j := (z.length : Int) + 1) (by omega)
  obtain ⟨A, hA, hAz⟩ : ∃ A : Nat, num % ((z.length : Int) + 1) = (A : Int) ∧ A ≤ z.length := ⟨(num % ((z.length : Int) + 1)).toNat, by omega, by omega⟩
  rw [hA] at m1
  generalize num / ((z.length : Int) + 1) = Mo at d1
  have l0 := len_str z (by omega)
  have d2 := w_divi (i := Mo) (j := 2) (by decide)
  have m96 := w_modi (i := Mo / 2) (j := 96) (by decide)
  have m14 := w_modi (i := Mo / 2) (j := 14) (by decide)
  have mm2 := w_modi (i := Mo) (j := 2) (by decide)
  obtain ⟨c0, hc0⟩ := ix_s (z := SM) (i := Mo / 2 % 96) ⟨by omega, by rw [SM_len]; omega⟩ (by rw [SM_len]; decide)
  have l14 : (PySem.Str.ofString "0123456789 ;\n-").length = 14 := by decide +kernel
  obtain ⟨c14, hc14⟩ := ix_s (z := PySem.Str.ofString "0123456789 ;\n-") (i := Mo / 2 % 14) ⟨by omega, by rw [l14]; omega⟩ (by rw [l14]; decide)
  obtain ⟨c1, h5⟩ : ∃ c1, (sIf (m2B pyEq (m2 pyMod (mV 4) (mC (.int 2))) (mC (.int 0))) (sSet 6 (m2 pyIx (mC (.str (PySem.Str.ofString "0123456789 ;\n-"))) (m2 pyMod (m2 pyDiv (mV 4) (mC (.int 2))) (mC (.int 14))))) sNx) [some (.imm (.str z)), some (.imm (.int way)), some (.imm (.int num)), some (.imm (.int (A : Int))), some (.imm (.int Mo)), some (.imm (.str SM)), some (.imm (.str ⟨#[c0]⟩)), none] = ret (.nx [some (.imm (.str z)), some (.imm (.int way)), some (.imm (.int num)), some (.imm (.int (A : Int))), some (.imm (.int Mo)), some (.imm (.str SM)), some (.imm (.str ⟨#[c1]⟩)), none]) := by
    have c : (m2B pyEq (m2 pyMod (mV 4) (mC (.int 2))) (mC (.int 0))) [some (.imm (.str z)), some (.imm (.int way)), some (.imm (.int num)), some (.imm (.int (A : Int))), some (.imm (.int Mo)), some (.imm (.str SM)), some (.imm (.str ⟨#[c0]⟩)), none] = ret (decide (Mo % 2 = 0)) := by
      simp only [w_m2B, w_m2, w_mVs, w_mV0, w_mC, bnd_ret, mm2, w_eqi]
    by_cases h : Mo % 2 = 0
    · refine ⟨c14, ?_⟩
      rw [if_t (by rw [c, decide_eq_true h])]
      exact set_of (by simp only [w_m2, w_mVs, w_mV0, w_mC, bnd_ret, d2, m14, hc14])
    · exact ⟨c0, by rw [if_f (by rw [c, decide_eq_false h])]; rfl⟩
  have sl1 : mSl (mV 0) mO0 (mO (mV 3)) [some (.imm (.str z)), some (.imm (.int way)), some (.imm (.int num)), some (.imm (.int (A : Int))), some (.imm (.int Mo)), some (.imm (.str SM)), some (.imm (.str ⟨#[c1]⟩)), some (.imm (.list OD))] = ret (.str (cutS z none (some (A : Int)))) := by
    show (if z.length ≤ 16777216 then _ else _) = _
    rw [if_pos (by omega)]
  have sl2 : mSl (mV 0) (mO (mV 3)) mO0 [some (.imm (.str z)), some (.imm (.int way)), some (.imm (.int num)), some (.imm (.int (A : Int))), some (.imm (.int Mo)), some (.imm (.str SM)), some (.imm (.str ⟨#[c1]⟩)), some (.imm (.list OD))] = ret (.str (cutS z (some (A : Int)) none)) := by
    show (if z.length ≤ 16777216 then _ else _) = _
    rw [if_pos (by omega)]
  have sl3 : mSl (mV 0) (mO (m2 pyAdd (mV 3) (mC (.int 1)))) mO0 [some (.imm (.str z)), some (.imm (.int way)), some (.imm (.int num)), some (.imm (.int (A : Int))), some (.imm (.int Mo)), some (.imm (.str SM)), some (.imm (.str ⟨#[c1]⟩)), some (.imm (.list OD))] = ret (.str (cutS z (some ((A + 1 : Nat) : Int)) none)) := by
    show (if z.length ≤ 16777216 then _ else _) = _
    rw [if_pos (by omega)]
    rfl
  have v6 : mV 6 [some (.imm (.str z)), some (.imm (.int way)), some (.imm (.int num)), some (.imm (.int (A : Int))), some (.imm (.int Mo)), some (.imm (.str SM)), some (.imm (.str ⟨#[c1]⟩)), some (.imm (.list OD))] = ret (.str ⟨#[c1]⟩) := rfl
  have k1 := cutTo_len z A
  have k2 := cutFrom_len z A
  have k3 := cutFrom_len z (A + 1)
  have one : (⟨#[c1]⟩ : Str).length = 1 := rfl
  have w1 : ∀ k : Int, m2B pyEq (mV 1) (mC (.int k)) [some (.imm (.str z)), some (.imm (.int way)), some (.imm (.int num)), some (.imm (.int (A : Int))), some (.imm (.int Mo)), some (.imm (.str SM)), some (.imm (.str ⟨#[c1]⟩)), some (.imm (.list OD))] = ret (decide (way = k)) := fun k => by
    simp only [w_m2B, w_mVs, w_mV0, w_mC, bnd_ret, w_eqi]
  obtain ⟨z', hz', hl⟩ : ∃ z' : Str, (sSeq (sIf (m2B pyEq (mV 1) (mC (.int 1))) (sRet (m2 pyAdd (m2 pyAdd (mSl (mV 0) mO0 (mO (mV 3))) (mV 6)) (mSl (mV 0) (mO (mV 3)) mO0))) sNx) (sSeq (sIf (m2B pyEq (mV 1) (mC (.int 2))) (sRet (m2 pyAdd (mSl (mV 0) mO0 (mO (mV 3))) (mSl (mV 0) (mO (m2 pyAdd (mV 3) (mC (.int 1)))) mO0))) sNx) (sSeq (sIf (m2B pyEq (mV 1) (mC (.int 3))) (sRet (m2 pyAdd (m2 pyAdd (mSl (mV 0) mO0 (mO (mV 3))) (mV 6)) (mSl (mV 0) (mO (m2 pyAdd (mV 3) (mC (.int 1)))) mO0))) sNx) (sSeq (sIf (m2B pyEq (mV 1) (mC (.int 4))) (sRet (m2 pyIx (mV 7) (m2 pyMod (mV 2) (mC (.int 21))))) sNx) (sRet (mV 0)))))) [some (.imm (.str z)), some (.imm (.int way)), some (.imm (.int num)), some (.imm (.int (A : Int))), some (.imm (.int Mo)), some (.imm (.str SM)), some (.imm (.str ⟨#[c1]⟩)), some (.imm (.list OD))] = ret (.rt (.str z')) ∧ z'.length ≤ z.length + 20 := by
    by_cases e1 : way = 1
    · refine ⟨cutS z none (some (A : Int)) ++ ⟨#[c1]⟩ ++ cutS z (some (A : Int)) none, seq_rt ?_, by rw [Str.length_append, Str.length_append]; omega⟩
      rw [if_t (by rw [w1, decide_eq_true e1])]
      refine ret_of ?_
      rw [w_m2, w_m2, sl1, sl2, v6, bnd_ret, bnd_ret, add_str (by omega), bnd_ret, bnd_ret, add_str (by rw [Str.length_append]; omega)]
    refine (?_ : _) |> fun (h : ∃ z' : Str, (sSeq (sIf (m2B pyEq (mV 1) (mC (.int 2))) (sRet (m2 pyAdd (mSl (mV 0) mO0 (mO (mV 3))) (mSl (mV 0) (mO (m2 pyAdd (mV 3) (mC (.int 1)))) mO0))) sNx) (sSeq (sIf (m2B pyEq (mV 1) (mC (.int 3))) (sRet (m2 pyAdd (m2 pyAdd (mSl (mV 0) mO0 (mO (mV 3))) (mV 6)) (mSl (mV 0) (mO (m2 pyAdd (mV 3) (mC (.int 1)))) mO0))) sNx) (sSeq (sIf (m2B pyEq (mV 1) (mC (.int 4))) (sRet (m2 pyIx (mV 7) (m2 pyMod (mV 2) (mC (.int 21))))) sNx) (sRet (mV 0))))) [some (.imm (.str z)), some (.imm (.int way)), some (.imm (.int num)), some (.imm (.int (A : Int))), some (.imm (.int Mo)), some (.imm (.str SM)), some (.imm (.str ⟨#[c1]⟩)), some (.imm (.list OD))] = ret (.rt (.str z')) ∧ z'.length ≤ z.length + 20) => (let ⟨z', h1, h2⟩ := h; ⟨z', seq_eq (by rw [if_f (by rw [w1, decide_eq_false e1])]; rfl) h1, h2⟩)
    by_cases e2 : way = 2
    · refine ⟨cutS z none (some (A : Int)) ++ cutS z (some ((A + 1 : Nat) : Int)) none, seq_rt ?_, by rw [Str.length_append]; omega⟩
      rw [if_t (by rw [w1, decide_eq_true e2])]
      refine ret_of ?_
      rw [w_m2, sl1, sl3, bnd_ret, bnd_ret, add_str (by omega)]
    refine (?_ : _) |> fun (h : ∃ z' : Str, (sSeq (sIf (m2B pyEq (mV 1) (mC (.int 3))) (sRet (m2 pyAdd (m2 pyAdd (mSl (mV 0) mO0 (mO (mV 3))) (mV 6)) (mSl (mV 0) (mO (m2 pyAdd (mV 3) (mC (.int 1)))) mO0))) sNx) (sSeq (sIf (m2B pyEq (mV 1) (mC (.int 4))) (sRet (m2 pyIx (mV 7) (m2 pyMod (mV 2) (mC (.int 21))))) sNx) (sRet (mV 0)))) [some (.imm (.str z)), some (.imm (.int way)), some (.imm (.int num)), some (.imm (.int (A : Int))), some (.imm (.int Mo)), some (.imm (.str SM)), some (.imm (.str ⟨#[c1]⟩)), some (.imm (.list OD))] = ret (.rt (.str z')) ∧ z'.length ≤ z.length + 20) => (let ⟨z', h1, h2⟩ := h; ⟨z', seq_eq (by rw [if_f (by rw [w1, decide_eq_false e2])]; rfl) h1, h2⟩)
    by_cases e3 : way = 3
    · refine ⟨cutS z none (some (A : Int)) ++ ⟨#[c1]⟩ ++ cutS z (some ((A + 1 : Nat) : Int)) none, seq_rt ?_, by rw [Str.length_append, Str.length_append]; omega⟩
      rw [if_t (by rw [w1, decide_eq_true e3])]
      refine ret_of ?_
      rw [w_m2, w_m2, sl1, sl3, v6, bnd_ret, bnd_ret, add_str (by omega), bnd_ret, bnd_ret, add_str (by rw [Str.length_append]; omega)]
    refine (?_ : _) |> fun (h : ∃ z' : Str, (sSeq (sIf (m2B pyEq (mV 1) (mC (.int 4))) (sRet (m2 pyIx (mV 7) (m2 pyMod (mV 2) (mC (.int 21))))) sNx) (sRet (mV 0))) [some (.imm (.str z)), some (.imm (.int way)), some (.imm (.int num)), some (.imm (.int (A : Int))), some (.imm (.int Mo)), some (.imm (.str SM)), some (.imm (.str ⟨#[c1]⟩)), some (.imm (.list OD))] = ret (.rt (.str z')) ∧ z'.length ≤ z.length + 20) => (let ⟨z', h1, h2⟩ := h; ⟨z', seq_eq (by rw [if_f (by rw [w1, decide_eq_false e3])]; rfl) h1, h2⟩)
    by_cases e4 : way = 4
    · have m21 := w_modi (i := num) (j := 21) (by decide)
      obtain ⟨d, hd, hm⟩ := ix_in (l := OD) (i := num % 21) ⟨by omega, by show _ < 21; omega⟩
      obtain ⟨s, rfl, hs⟩ := OD_str d hm
      refine ⟨s, seq_rt ?_, by omega⟩
      rw [if_t (by rw [w1, decide_eq_true e4])]
      exact ret_of (by simp only [w_m2, w_mVs, w_mV0, w_mC, bnd_ret, m21, hd])
    · exact ⟨z, seq_eq (by rw [if_f (by rw [w1, decide_eq_false e4])]; rfl) rfl, by omega⟩
  refine ⟨z', fnD_of ?_, hl⟩
  show m__law_bent [some (.imm (.str z)), some (.imm (.int way)), some (.imm (.int num)), none, none, none, none, none] = _
  unfold m__law_bent
  refine seq_eq (ρ' := [some (.imm (.str z)), some (.imm (.int way)), some (.imm (.int num)), some (.imm (.int (A : Int))), none, none, none, none]) (set_of (by simp only [w_m2, w_mCall, w_mCons, w_mNil, w_mVs, w_mV0, w_mC, bnd_ret, l0, w_addi, m1])) ?_
  refine seq_eq (ρ' := [some (.imm (.str z)), some (.imm (.int way)), some (.imm (.int num)), some (.imm (.int (A : Int))), some (.imm (.int Mo)), none, none, none]) (set_of (by simp only [w_m2, w_mCall, w_mCons, w_mNil, w_mVs, w_mV0, w_mC, bnd_ret, l0, w_addi, d1])) ?_
  refine seq_eq (ρ' := [some (.imm (.str z)), some (.imm (.int way)), some (.imm (.int num)), some (.imm (.int (A : Int))), some (.imm (.int Mo)), some (.imm (.str (PySem.Str.ofString " !\"#$&'()*+,-./0123456789:;<=>?@ABCDEFGHIJKLMNOPQRSTUVWXYZ[\\]^_`"))), none, none]) rfl ?_
  refine seq_eq (ρ' := [some (.imm (.str z)), some (.imm (.int way)), some (.imm (.int num)), some (.imm (.int (A : Int))), some (.imm (.int Mo)), some (.imm (.str SM)), none, none]) (set_of (by
    simp only [w_m2, w_mVs, w_mV0, w_mC, bnd_ret]
    exact add_str (by decide +kernel))) ?_
  refine seq_eq (ρ' := [some (.imm (.str z)), some (.imm (.int way)), some (.imm (.int num)), some (.imm (.int (A : Int))), some (.imm (.int Mo)), some (.imm (.str SM)), some (.imm (.str ⟨#[c0]⟩)), none]) (set_of (by simp only [w_m2, w_mVs, w_mV0, w_mC, bnd_ret, d2, m96, hc0])) ?_
  refine seq_eq h5 ?_
  refine seq_eq rfl ?_
  refine seq_eq rfl ?_
  refine seq_eq (ρ' := [some (.imm (.str z)), some (.imm (.int way)), some (.imm (.int num)), some (.imm (.int (A : Int))), some (.imm (.int Mo)), some (.imm (.str SM)), some (.imm (.str ⟨#[c1]⟩)), some (.imm (.list OD))]) rfl ?_
  exact hz'

/-! ### the drawn piece -/
theorem begunT {G : List PyData → M PyData} {S : PyData} {a1 a2 s : Int} (i : Int) (hi : 0 ≤ i ∧ i < 6) (hs : 1 ≤ s ∧ s ≤ 200) (f1 : G [S, .int 1] = ret (.int a1)) (f2 : G [S, .int 2] = ret (.int a2)) (b d x5 x6 x7 x8 x9 x10 : Option Sl) :
    ∃ Y : Int, 0 ≤ Y ∧ Y ≤ 800 ∧ (m2 pyMul (m2 pyMod (m2 pyAdd (m2 pyDiv (mCall G (mCons (mV 0) (mCons (mC (.int 1)) mNil))) (mC (.int 1600))) (m2 pyMul (mV 4) (m2 pyDiv (mCall G (mCons (mV 0) (mCons (mC (.int 2)) mNil))) (mC (.int 401))))) (mC (.int 5))) (mV 2)) [some (.imm S), b, some (.imm (.int s)), d, some (.imm (.int i)), x5, x6, x7, x8, x9, x10] = ret (.int Y) := by
  have e1 := w_divi (i := a1) (j := 1600) ⟨by decide, by decide⟩
  have e2 := w_divi (i := a2) (j := 401) ⟨by decide, by decide⟩
  have k2 : ∀ x : Int, pyMul (.int i) (.int x) = ret (.int (i * x)) := fun x => w_muli (.inl ⟨by omega, by omega⟩)
  have e3 := w_modi (i := a1 / 1600 + i * (a2 / 401)) (j := 5) (by decide)
  have r1 := Int.emod_nonneg (a1 / 1600 + i * (a2 / 401)) (show (5 : Int) ≠ 0 by decide)
  have r2 := Int.emod_lt_of_pos (a1 / 1600 + i * (a2 / 401)) (show (0 : Int) < 5 by decide)
  generalize (a1 / 1600 + i * (a2 / 401)) % 5 = R at e3 r1 r2
  have k3 : pyMul (.int R) (.int s) = ret (.int (R * s)) := w_muli (.inl ⟨by omega, by omega⟩)
  refine ⟨R * s, Int.mul_nonneg r1 (by omega), Int.le_trans (Int.mul_le_mul (show R ≤ 4 by omega) hs.2 (by omega) (by omega)) (by decide), ?_⟩
  rw [w_m2, w_m2, w_m2, w_m2, w_m2, w_m2, w_mCall, w_mCall, w_mCons, w_mCons, w_mCons, w_mCons, w_mNil, w_mV0]
  simp only [bnd_ret, w_mC, f1, f2, w_mVs, w_mV0, e1, e2, k2, w_addi, e3, k3]
theorem stepT (ns : List Int) (hz : ns.length ≤ 63) (m : Nat) (hm1 : 1 ≤ m) (hm2 : m ≤ 6) (al : Int) (hal : 1 ≤ al ∧ al ≤ 200) (p : List (List Nt)) (hp : p.length ≤ 6) (x6 x7 x8 : Option Sl) (i : Nat) (hi : i < 6) :
    ∃ (v : List Nt) (y6 y7 y8 : Option Sl), okV v ∧ v.length ≤ 40 ∧ lb__law_pieceT_1 [some (.imm (sc ns)), some (.imm (.int (m : Int))), some (.imm (.int al)), some (.own (p.map vc)), some (.imm (.int (i : Int))), none, x6, x7, x8, none, none] = ret (.nx [some (.imm (sc ns)), some (.imm (.int (m : Int))), some (.imm (.int al)), some (.own ((p ++ [v]).map vc)), some (.imm (.int (i : Int))), none, y6, y7, y8, none, none]) := by
  have f1 : F__law_at [sc ns, .int 1] = ret (.int (ns.getD 1 0)) := F_at ns 1
  have f2 : F__law_at [sc ns, .int 2] = ret (.int (ns.getD 2 0)) := F_at ns 2
  generalize ns.getD 1 0 = a1 at f1
  generalize ns.getD 2 0 = a2 at f2
  obtain ⟨c, hc, hc1, hc2⟩ : ∃ c : Nat, (if (33 : Int) < ns.length then 33 else (ns.length : Int)) = (c : Int) ∧ c ≤ 33 ∧ c ≤ ns.length := ⟨(if (33 : Int) < ns.length then 33 else (ns.length : Int)).toNat, by split <;> omega, by split <;> omega, by split <;> omega⟩
  obtain ⟨ms, hms, hml⟩ : ∃ ms : List Int, (mLc [9] (mRng3 (mCons (m2 pyAdd (mC (.int 3)) (mV 4)) (mCons (mCall pyMin2 (mCons (mCall pyLen (mCons (mV 0) mNil)) (mCons (mC (.int 33)) mNil))) (mCons (mV 1) mNil)))) (tgN 9) mYes (m2 pyIx (mV 0) (mV 9))) [some (.imm (sc ns)), some (.imm (.int (m : Int))), some (.imm (.int al)), some (.own (p.map vc)), some (.imm (.int (i : Int))), none, x6, x7, x8, none, none] = ret (ms.map .int) ∧ ms.length ≤ 40 := by
    have h0 : (mCons (m2 pyAdd (mC (.int 3)) (mV 4)) (mCons (mCall pyMin2 (mCons (mCall pyLen (mCons (mV 0) mNil)) (mCons (mC (.int 33)) mNil))) (mCons (mV 1) mNil))) [some (.imm (sc ns)), some (.imm (.int (m : Int))), some (.imm (.int al)), some (.own (p.map vc)), some (.imm (.int (i : Int))), none, x6, x7, x8, none, none] = ret [.int (3 + (i : Int)), .int (if (33 : Int) < ns.length then 33 else ns.length), .int m] := by
      simp [sc]
    rw [hc] at h0
    obtain ⟨n, h1, h2, h3⟩ := rng3_of h0 ⟨by omega, by omega⟩ ⟨by omega, by omega⟩ ⟨by omega, by omega⟩
    refine ⟨(List.range n).map fun k => ns.getD (3 + i + k * m) 0, ?_, by rw [List.length_map, List.length_range]; omega⟩
    refine (mLc_map (fun d => match d with | .int v => .int (ns.getD v.toNat 0) | _ => .none) h1 rfl (by rw [List.length_map, List.length_range]; omega) fun d hd => ?_).trans ?_
    · obtain ⟨k, hk, rfl⟩ := List.mem_map.mp hd
      have hk := h2 k (List.mem_range.mp hk)
      refine ⟨_, rfl, ?_⟩
      have e : (3 : Int) + i + k * m = ((3 + i + k * m : Nat) : Int) := by
        rw [Int.natCast_add, Int.natCast_add, Int.natCast_mul]
        rfl
      have a : pyIx (sc ns) (.int (3 + (i : Int) + k * m)) = ret (.int (ns.getD (3 + (i : Int) + k * m).toNat 0)) := by
        rw [e, Int.toNat_natCast]
        rw [e] at hk
        have hk' : 3 + i + k * m < ns.length := by omega
        show ofO (atI (ns.map PyData.int) ((3 + i + k * m : Nat) : Int)) _ = _
        rw [atI_nat (v := PyData.int ns[3 + i + k * m]) (by rw [List.getElem?_map, List.getElem?_eq_getElem hk']; rfl)]
        rw [List.getD_eq_getElem?_getD, List.getElem?_eq_getElem hk']
        rfl
      simp [wipeR, a]
    · congr 1
      rw [List.map_map, List.map_map]
      apply List.map_congr_left
      intro k _
      show PyData.int (ns.getD (3 + (i : Int) + k * m).toNat 0) = PyData.int (ns.getD (3 + i + k * m) 0)
      have e : (3 : Int) + i + k * m = ((3 + i + k * m : Nat) : Int) := by
        rw [Int.natCast_add, Int.natCast_add, Int.natCast_mul]
        rfl
      rw [e, Int.toNat_natCast]
  have k1 : pyMul (.int 5) (.int (i : Int)) = ret (.int (5 * i)) := w_muli (.inr ⟨by omega, by omega⟩)
  generalize (5 : Int) * (i : Int) = Z at k1
  obtain ⟨Y, hY1, hY2, k2⟩ := begunT (i : Int) ⟨by omega, by omega⟩ hal f1 f2 (some (.imm (.int (m : Int)))) (some (.own (p.map vc))) none (some (.imm (.list (ms.map .int)))) (some (.imm (.int (a2 - Z)))) x8 none none
  obtain ⟨v, hv1, hv2, hv3⟩ := F_notes5 ms Y ((a2 - Z) % 401 - 200) al ⟨hY1, hY2⟩ ⟨by omega, by omega⟩ hal (by omega)
  have m401 := w_modi (i := a2 - Z) (j := 401) (by decide)
  refine ⟨v, some (.imm (.list (ms.map .int))), some (.imm (.int (a2 - Z))), some (.imm (.int Y)), hv2, by omega, ?_⟩
  unfold lb__law_pieceT_1
  refine seq_eq (ρ' := [some (.imm (sc ns)), some (.imm (.int (m : Int))), some (.imm (.int al)), some (.own (p.map vc)), some (.imm (.int (i : Int))), none, some (.imm (.list (ms.map .int))), x7, x8, none, none]) (set_of (by rw [w_mL, hms]; rfl)) ?_
  refine seq_eq (ρ' := [some (.imm (sc ns)), some (.imm (.int (m : Int))), some (.imm (.int al)), some (.own (p.map vc)), some (.imm (.int (i : Int))), none, some (.imm (.list (ms.map .int))), some (.imm (.int (a2 - Z))), x8, none, none]) (set_of (by simp only [w_m2, w_mCall, w_mCons, w_mNil, w_mVs, w_mV0, w_mC, bnd_ret, f2, k1, w_subi])) ?_
  refine seq_eq (ρ' := [some (.imm (sc ns)), some (.imm (.int (m : Int))), some (.imm (.int al)), some (.own (p.map vc)), some (.imm (.int (i : Int))), none, some (.imm (.list (ms.map .int))), some (.imm (.int (a2 - Z))), some (.imm (.int Y)), none, none]) (set_of k2) ?_
  have cl : (mCall F__law_notes (mCons (mV 6) (mCons (mV 8) (mCons (m2 pySub (m2 pyMod (mV 7) (mC (.int 401))) (mC (.int 200))) (mCons (mV 2) mNil))))) [some (.imm (sc ns)), some (.imm (.int (m : Int))), some (.imm (.int al)), some (.own (p.map vc)), some (.imm (.int (i : Int))), none, some (.imm (.list (ms.map .int))), some (.imm (.int (a2 - Z))), some (.imm (.int Y)), none, none] = ret (vc v) := by
    refine (call_of (F := F__law_notes) (ds := [.list (ms.map .int), .int Y, .int ((a2 - Z) % 401 - 200), .int al]) ?_).trans hv1
    simp only [w_mCons, w_mNil, w_m2, w_mVs, w_mV0, w_mC, bnd_ret, m401, w_subi]
  rw [app_of (i := 3) (ds := p.map vc) rfl, cl, bnd_ret, if_pos (by rw [List.length_map]; omega), List.map_append]
  rfl
theorem F_pieceT (ns : List Int) (hz : ns.length ≤ 63) : ∃ p : List (List Nt), F__law_pieceT [sc ns] = ret (pc p) ∧ okP p ∧ ∀ v ∈ p, v.length ≤ 40 := by
  have f0 : F__law_at [sc ns, .int 0] = ret (.int (ns.getD 0 0)) := F_at ns 0
  have f1 : F__law_at [sc ns, .int 1] = ret (.int (ns.getD 1 0)) := F_at ns 1
  have f2 : F__law_at [sc ns, .int 2] = ret (.int (ns.getD 2 0)) := F_at ns 2
  generalize ns.getD 0 0 = a0 at f0
  generalize ns.getD 1 0 = a1 at f1
  generalize ns.getD 2 0 = a2 at f2
  obtain ⟨m, hm, hm1, hm2⟩ : ∃ m : Nat, (if a0 / 4 % 8 = 1 then 5 + a0 / 32 % 2 else 1 + a0 % 4) = (m : Int) ∧ 1 ≤ m ∧ m ≤ 6 := ⟨(if a0 / 4 % 8 = 1 then 5 + a0 / 32 % 2 else 1 + a0 % 4).toNat, by split <;> omega, by split <;> omega, by split <;> omega⟩
  obtain ⟨al, hal, hal1, hal2⟩ : ∃ al : Int, (if a1 % 8 = 1 then 1 + a1 / 8 % 200 else 1) = al ∧ 1 ≤ al ∧ al ≤ 200 := ⟨_, rfl, by split <;> omega, by split <;> omega⟩
  obtain ⟨ρ', e1, p, x4, x6, x7, x8, rfl, hx4, hl, hp⟩ := for_nx (g := tgN 4) (fa := mRng1 (mCons (mV 1) mNil)) (b := lb__law_pieceT_1) (ρ := [some (.imm (sc ns)), some (.imm (.int (m : Int))), some (.imm (.int al)), some (.own []), none, none, none, none, none, none, none]) (ds := (List.range m).map fun i : Nat => PyData.int (i : Int))
    (fun i ρ => ∃ (p : List (List Nt)) (x4 x6 x7 x8 : Option Sl), ρ = [some (.imm (sc ns)), some (.imm (.int (m : Int))), some (.imm (.int al)), some (.own (p.map vc)), x4, none, x6, x7, x8, none, none] ∧ (x4 = none ∨ ∃ d, x4 = some (.imm d)) ∧ p.length = i ∧ ∀ v ∈ p, okV v ∧ v.length ≤ 40)
    (rng1_of (n := m) rfl (by omega)) ⟨[], none, none, none, none, rfl, .inl rfl, rfl, fun v hv => (nomatch hv)⟩ fun i d ρ hd ⟨p, x4, x6, x7, x8, hρ, _, hl, hp⟩ => by
      obtain ⟨hi, rfl⟩ := map_range hd
      subst hρ
      obtain ⟨v, y6, y7, y8, hv1, hv2, e⟩ := stepT ns hz m hm1 hm2 al ⟨hal1, hal2⟩ p (by omega) x6 x7 x8 i (by omega)
      refine ⟨_, .inl ((bnd_tgN _).trans e), p ++ [v], _, _, _, _, rfl, .inr ⟨_, rfl⟩, by rw [List.length_append, hl]; rfl, fun w hw => ?_⟩
      rcases List.mem_append.mp hw with hw | hw
      · exact hp w hw
      · rw [List.mem_singleton.mp hw]
        exact ⟨hv1, hv2⟩
  rw [List.length_map, List.length_range] at hl
  have okn : okV [] := ⟨fun n hn => (nomatch hn), fun i m n hm => by simp at hm⟩
  have d2005 := w_divi (i := a2) (j := 2005) (by decide)
  have k2 : pyMul (.int 2) (.int (m : Int)) = ret (.int (2 * (m : Int))) := w_muli (.inl ⟨by decide, by decide⟩)
  have mE := w_modi (i := a2 / 2005) (j := 2 * (m : Int)) (by omega)
  generalize a2 / 2005 % (2 * (m : Int)) = E at mE
  have hlc : (mLc [4, 10] (mEnum (mCons (mV 3) mNil)) (tgT 2 (tgsCons (tgN 4) (tgsCons (tgN 10) tgsNil))) mYes (m2 pyIx (mL (mLst (mCons (mV 10) (mCons (mL (mLst mNil)) mNil)))) (mCall pyInt (mCons (mB (m2B pyEq (mV 4) (mV 5))) mNil)))) [some (.imm (sc ns)), some (.imm (.int (m : Int))), some (.imm (.int al)), some (.imm (pc p)), x4, some (.imm (.int E)), x6, x7, x8, none, none] = ret (((List.range m).map fun i : Nat => if (i : Int) = E then [] else vAt p i).map vc) := by
    have e := mLc_map (vs := [4, 10]) (fa := mEnum (mCons (mV 3) mNil)) (g := tgT 2 (tgsCons (tgN 4) (tgsCons (tgN 10) tgsNil))) (f := (m2 pyIx (mL (mLst (mCons (mV 10) (mCons (mL (mLst mNil)) mNil)))) (mCall pyInt (mCons (mB (m2B pyEq (mV 4) (mV 5))) mNil)))) (ρ := [some (.imm (sc ns)), some (.imm (.int (m : Int))), some (.imm (.int al)), some (.imm (pc p)), x4, some (.imm (.int E)), x6, x7, x8, none, none]) (ds := (List.range p.length).map fun i : Nat => PyData.tuple [.int (i : Int), (p.map vc).getD i .none])
      (fun d => match d with
        | .tuple [.int i, v] => if i = E then .list [] else v
        | _ => .none) (by
        show ret ((List.range (p.map vc).length).map _) = _
        rw [List.length_map]) (by rcases hx4 with rfl | ⟨d, rfl⟩ <;> rfl) (by rw [List.length_map, List.length_range]; omega) fun d hd => by
        obtain ⟨i, hi, rfl⟩ := List.mem_map.mp hd
        have hi' : i < p.length := List.mem_range.mp hi
        have hg : (p.map vc).getD i .none = vc (vAt p i) := by
          rw [List.getD_eq_getElem?_getD, List.getElem?_map, v_get hi']
          rfl
        rw [hg]
        refine ⟨_, rfl, ?_⟩
        have c : ∀ ρ : Rho, mV 4 ρ = ret (.int (i : Int)) → mV 5 ρ = ret (.int E) → mCall pyInt (mCons (mB (m2B pyEq (mV 4) (mV 5))) mNil) ρ = ret (.int (if (i : Int) = E then 1 else 0)) := fun ρ h4 h5 => by
          rw [w_mCall, w_mCons, w_mB, w_m2B, h4, h5, bnd_ret, bnd_ret, w_eqi, bnd_ret, bnd_ret, w_mNil, bnd_ret, bnd_ret]
          by_cases h : (i : Int) = E
          · rw [decide_eq_true h, if_pos h]
            rfl
          · rw [decide_eq_false h, if_neg h]
            rfl
        rw [w_m2, c _ rfl rfl]
        show bnd (ret (PyData.list [vc (vAt p i), .list []])) _ = _
        by_cases h : (i : Int) = E
        · show pyIx (.list [vc (vAt p i), .list []]) (.int (if (i : Int) = E then 1 else 0)) = ret (if (i : Int) = E then .list [] else vc (vAt p i))
          rw [if_pos h, if_pos h]
          rfl
        · show pyIx (.list [vc (vAt p i), .list []]) (.int (if (i : Int) = E then 1 else 0)) = ret (if (i : Int) = E then .list [] else vc (vAt p i))
          rw [if_neg h, if_neg h]
          rfl
    rw [e, List.map_map, List.map_map, hl]
    refine congrArg ret (List.map_congr_left fun i hi => ?_)
    have hi' : i < p.length := by rw [hl]; exact List.mem_range.mp hi
    have hg : (p.map vc).getD i .none = vc (vAt p i) := by
      rw [List.getD_eq_getElem?_getD, List.getElem?_map, v_get hi']
      rfl
    show (if (i : Int) = E then PyData.list [] else (p.map vc).getD i .none) = vc (if (i : Int) = E then [] else vAt p i)
    rw [hg]
    split <;> rfl
  refine ⟨(List.range m).map fun i : Nat => if (i : Int) = E then [] else vAt p i, fnD_of ?_, ⟨by rw [List.length_map, List.length_range]; exact hm1, by rw [List.length_map, List.length_range]; exact hm2, fun v hv => ?_⟩, fun v hv => ?_⟩
  · show m__law_pieceT [some (.imm (sc ns)), none, none, none, none, none, none, none, none, none, none] = _
    unfold m__law_pieceT
    have m4 := w_modi (i := a0) (j := 4) (by decide)
    have d4 := w_divi (i := a0) (j := 4) (by decide)
    have m8 := w_modi (i := a0 / 4) (j := 8) (by decide)
    have d32 := w_divi (i := a0) (j := 32) (by decide)
    have q2 := w_modi (i := a0 / 32) (j := 2) (by decide)
    have n8 := w_modi (i := a1) (j := 8) (by decide)
    have e8 := w_divi (i := a1) (j := 8) (by decide)
    have m200 := w_modi (i := a1 / 8) (j := 200) (by decide)
    refine seq_eq (ρ' := [some (.imm (sc ns)), some (.imm (.int (1 + a0 % 4))), none, none, none, none, none, none, none, none, none]) (set_of (by simp only [w_m2, w_mCall, w_mCons, w_mNil, w_mVs, w_mV0, w_mC, bnd_ret, f0, m4, w_addi])) ?_
    refine seq_eq (ρ' := [some (.imm (sc ns)), some (.imm (.int (m : Int))), none, none, none, none, none, none, none, none, none]) ?_ ?_
    · have c : (m2B pyEq (m2 pyMod (m2 pyDiv (mCall F__law_at (mCons (mV 0) (mCons (mC (.int 0)) mNil))) (mC (.int 4))) (mC (.int 8))) (mC (.int 1))) [some (.imm (sc ns)), some (.imm (.int (1 + a0 % 4))), none, none, none, none, none, none, none, none, none] = ret (decide (a0 / 4 % 8 = 1)) := by
        simp only [w_m2B, w_m2, w_mCall, w_mCons, w_mNil, w_mVs, w_mV0, w_mC, bnd_ret, f0, d4, m8, w_eqi]
      by_cases h : a0 / 4 % 8 = 1
      · rw [if_t (by rw [c, decide_eq_true h]), ← hm, if_pos h]
        exact set_of (by simp only [w_m2, w_mCall, w_mCons, w_mNil, w_mVs, w_mV0, w_mC, bnd_ret, f0, d32, q2, w_addi])
      · rw [if_f (by rw [c, decide_eq_false h]), ← hm, if_neg h]
        rfl
    refine seq_eq (ρ' := [some (.imm (sc ns)), some (.imm (.int (m : Int))), some (.imm (.int 1)), none, none, none, none, none, none, none, none]) rfl ?_
    refine seq_eq (ρ' := [some (.imm (sc ns)), some (.imm (.int (m : Int))), some (.imm (.int al)), none, none, none, none, none, none, none, none]) ?_ ?_
    · have c : (m2B pyEq (m2 pyMod (mCall F__law_at (mCons (mV 0) (mCons (mC (.int 1)) mNil))) (mC (.int 8))) (mC (.int 1))) [some (.imm (sc ns)), some (.imm (.int (m : Int))), some (.imm (.int 1)), none, none, none, none, none, none, none, none] = ret (decide (a1 % 8 = 1)) := by
        simp only [w_m2B, w_m2, w_mCall, w_mCons, w_mNil, w_mVs, w_mV0, w_mC, bnd_ret, f1, n8, w_eqi]
      by_cases h : a1 % 8 = 1
      · rw [if_t (by rw [c, decide_eq_true h]), ← hal, if_pos h]
        exact set_of (by simp only [w_m2, w_mCall, w_mCons, w_mNil, w_mVs, w_mV0, w_mC, bnd_ret, f1, e8, m200, w_addi])
      · rw [if_f (by rw [c, decide_eq_false h]), ← hal, if_neg h]
        rfl
    refine seq_eq (ρ' := [some (.imm (sc ns)), some (.imm (.int (m : Int))), some (.imm (.int al)), some (.own []), none, none, none, none, none, none, none]) rfl ?_
    refine seq_eq e1 ?_
    rw [w_sFrz, w_frzs, w_frzs, w_frzs, w_frz0o]
    refine seq_eq (ρ' := [some (.imm (sc ns)), some (.imm (.int (m : Int))), some (.imm (.int al)), some (.imm (pc p)), x4, some (.imm (.int E)), x6, x7, x8, none, none]) (set_of (by simp only [w_m2, w_mCall, w_mCons, w_mNil, w_mVs, w_mV0, w_mC, bnd_ret, f2, d2005, k2, mE])) ?_
    refine ret_of ?_
    rw [w_mL, hlc]
    rfl
  · obtain ⟨i, hi, rfl⟩ := List.mem_map.mp hv
    show okV (if (i : Int) = E then [] else vAt p i)
    split
    · exact okn
    · exact (hp _ (v_mem (by rw [hl]; exact List.mem_range.mp hi))).1
  · obtain ⟨i, hi, rfl⟩ := List.mem_map.mp hv
    show (if (i : Int) = E then [] else vAt p i).length ≤ 40
    split
    · exact Nat.zero_le _
    · exact (hp _ (v_mem (by rw [hl]; exact List.mem_range.mp hi))).2
end VW
namespace VW
open PySem PySem.Spec PyProof.Rows L2

theorem tried_ok {A d : PyData} (h : F_read [A] = ret d) : F__law_tried [A] = ret d := by
  refine fnD_of ?_
  show m__law_tried [some (.imm A), none] = _
  unfold m__law_tried
  exact seq_rt (try_ok (ret_of ((call_of (F := F_read) (ds := [A]) rfl).trans h)))
theorem tried_er {A z : PyData} {x : Ex} (h : F_read [A] = some (.er x)) (hg : g__law_tried x = some (some z)) : F__law_tried [A] = ret z := by
  refine fnD_of ?_
  show m__law_tried [some (.imm A), none] = _
  unfold m__law_tried
  refine seq_rt (try_er (x := x) ?_ hg ⟨by show 1 < 2; decide, by show 2 ≤ 2; decide, rfl⟩)
  have e := (call_of (F := F_read) (fa := mCons (mV 0) mNil) (ρ := [some (.imm A), none]) (ds := [A]) rfl).trans h
  rw [w_sRet, e]
  rfl
def REF : PyData := .str (PySem.Str.ofString "refused")
def ODDS : List PyData := [.none, .int 7, .bool true, .list [.str (PySem.Str.ofString "0 1 0")], .tuple [.str (PySem.Str.ofString "0 1 0")]]
theorem read_odd {d : PyData} (h : mNot (mIsB (mB (mInst "str" (mV 0)))) [some (.imm d), none, none] = ret true) : F_read [d] = some (.er .text) := by
  refine fnD_er ?_
  show m_read [some (.imm d), none, none] = _
  unfold m_read
  exact seq_er (by rw [if_t h]; rfl)
theorem tried_odd : ∀ d ∈ ODDS, F__law_tried [d] = ret REF := by
  intro d hd
  unfold ODDS at hd
  simp only [List.mem_cons, List.not_mem_nil, or_false] at hd
  rcases hd with rfl | rfl | rfl | rfl | rfl <;> exact tried_er (read_odd rfl) rfl
theorem ref_eq : pyEq REF (.str (PySem.Str.ofString "refused")) = ret true := by
  unfold REF
  rw [str_eq]
  exact congrArg ret (beq_self_eq_true _)
/-! ### kinds -/
theorem whole3K (n : Nt) (a0 a1 a2 a3 a4 a5 a6 a7 a8 : Option Sl) : mLc [10] (mTs (mV 9)) (tgN 10) (mNot (mIsB (mCall F__law_whole (mCons (mV 10) mNil)))) (mV 10) [a0, a1, a2, a3, a4, a5, a6, a7, a8, some (.imm (nt n)), none] = ret [] := by
  have e := mLc_fm (vs := [10]) (fa := mTs (mV 9)) (g := tgN 10) (t := mNot (mIsB (mCall F__law_whole (mCons (mV 10) mNil)))) (f := mV 10) (ρ := [a0, a1, a2, a3, a4, a5, a6, a7, a8, some (.imm (nt n)), none]) (ds := [.int n.1, .int n.2.1, .int n.2.2]) (fun d => !wholeD d) (fun d => d) rfl rfl (by show 3 ≤ 16777216; decide) fun d hd => by
    refine ⟨_, w_tgN, ?_, fun _ => rfl⟩
    show bnd (bnd (F__law_whole [d]) asB) _ = _
    rw [F_lwholeD, bnd_ret, w_asB, bnd_ret]
  rw [e]
  rfl
theorem kinds2 (a0 a1 a2 a3 a4 a5 a6 a7 a8 : Option Sl) : ∀ (v : List Nt) (x : Option Sl), ∃ x', loopM (tgN 9) lb_law_2 (v.map nt) [a0, a1, a2, a3, a4, a5, a6, a7, a8, x, none] = ret (.nx [a0, a1, a2, a3, a4, a5, a6, a7, a8, x', none])
  | [], x => ⟨x, rfl⟩
  | n :: v, x => by
    obtain ⟨x', ih⟩ := kinds2 a0 a1 a2 a3 a4 a5 a6 a7 a8 v (some (.imm (nt n)))
    have stp : lb_law_2 [a0, a1, a2, a3, a4, a5, a6, a7, a8, some (.imm (nt n)), none] = ret (.nx [a0, a1, a2, a3, a4, a5, a6, a7, a8, some (.imm (nt n)), none]) := by
      unfold lb_law_2
      have c1 : mNot (mIsB (mB (mInst "tuple" (mV 9)))) [a0, a1, a2, a3, a4, a5, a6, a7, a8, some (.imm (nt n)), none] = ret false := rfl
      have c2 : m2B pyGt (mCall pyLen (mCons (mL (mLc [10] (mTs (mV 9)) (tgN 10) (mNot (mIsB (mCall F__law_whole (mCons (mV 10) mNil)))) (mV 10))) mNil)) (mC (.int 0)) [a0, a1, a2, a3, a4, a5, a6, a7, a8, some (.imm (nt n)), none] = ret false := by
        rw [w_m2B, w_mCall, w_mCons, w_mL, whole3K]
        rfl
      rw [if_f (by rw [w_mOr, c1, bnd_ret, if_neg (by decide), c2])]
      rfl
    exact ⟨x', by rw [List.map_cons, loop_step (w_tgN) stp]; exact ih⟩
theorem kinds1 (a0 a1 a2 a3 a4 a5 a6 a7 : Option Sl) : ∀ (p : List (List Nt)) (x y : Option Sl), ∃ x' y', loopM (tgN 8) lb_law_1 (p.map vc) [a0, a1, a2, a3, a4, a5, a6, a7, x, y, none] = ret (.nx [a0, a1, a2, a3, a4, a5, a6, a7, x', y', none])
  | [], x, y => ⟨x, y, rfl⟩
  | v :: p, x, y => by
    obtain ⟨y1, h1⟩ := kinds2 a0 a1 a2 a3 a4 a5 a6 a7 (some (.imm (vc v))) v y
    obtain ⟨x', y', ih⟩ := kinds1 a0 a1 a2 a3 a4 a5 a6 a7 p (some (.imm (vc v))) y1
    have stp : lb_law_1 [a0, a1, a2, a3, a4, a5, a6, a7, some (.imm (vc v)), y, none] = ret (.nx [a0, a1, a2, a3, a4, a5, a6, a7, some (.imm (vc v)), y1, none]) := by
      unfold lb_law_1
      exact seq_eq (ρ' := [a0, a1, a2, a3, a4, a5, a6, a7, some (.imm (vc v)), y, none]) (by rw [if_f rfl]; rfl) h1
    exact ⟨x', y', by rw [List.map_cons, loop_step (w_tgN) stp]; exact ih⟩
/-! ### the end -/
theorem tail_ok {S : PyData} {p q : List (List Nt)} {T z : Str} {N : Int} (hq : okP q) (hl : ∀ v ∈ q, v.length ≤ 20000) (ht : F__law_tried [.str z] = ret (pc q)) : (sSeq (sSetD 7 (mCall F__law_tried (mCons (mV 5) mNil))) (sSeq (sIf (m2B pyIs (mV 6) (mC .none)) (sRet (mFrz 7 (mB (mAnd (mInst "str" (mV 7)) (m2B pyEq (mV 7) (mC (.str (PySem.Str.ofString "refused")))))))) sNx) (sSeq (sIf (mFrzT 7 (mOr (mNot (mIsB (mB (mInst "list" (mV 7))))) (m2B pyNe (mV 7) (mV 6)))) (sRet (mC (.bool false))) sNx) (sSeq (sHold ([8] ++ (([] ++ []) ++ ([9] ++ ([] ++ [])))) (sFor (tgN 8) (mLs (mV 7)) lb_law_1)) (sSeq (sAppR 7 (mC (.int 0)) (mTup (mCons (mC (.int 0)) (mCons (mC (.int 1)) (mCons (mC (.int 0)) mNil))))) (sRet (mB (m2B pyEq (mCall F__law_tried (mCons (mV 5) mNil)) (mV 6))))))))) [some (.imm S), some (.imm (pc p)), some (.imm (pc p)), some (.imm (.str T)), some (.imm (.int N)), some (.imm (.str z)), some (.imm (pc q)), none, none, none, none] = ret (.rt (.bool true)) := by
  refine seq_eq (ρ' := [some (.imm S), some (.imm (pc p)), some (.imm (pc p)), some (.imm (.str T)), some (.imm (.int N)), some (.imm (.str z)), some (.imm (pc q)), some (.deep (q.map (List.map nt))), none, none, none]) ((setD_of (d := pc q) ((call_of (F := F__law_tried) (ds := [.str z]) rfl).trans ht)).trans (by rw [slOf_pc]; rfl)) ?_
  refine seq_eq (ρ' := [some (.imm S), some (.imm (pc p)), some (.imm (pc p)), some (.imm (.str T)), some (.imm (.int N)), some (.imm (.str z)), some (.imm (pc q)), some (.deep (q.map (List.map nt))), none, none, none]) (by rw [if_f rfl]; rfl) ?_
  have fz : frz 7 [some (.imm S), some (.imm (pc p)), some (.imm (pc p)), some (.imm (.str T)), some (.imm (.int N)), some (.imm (.str z)), some (.imm (pc q)), some (.deep (q.map (List.map nt))), none, none, none] = [some (.imm S), some (.imm (pc p)), some (.imm (pc p)), some (.imm (.str T)), some (.imm (.int N)), some (.imm (.str z)), some (.imm (pc q)), some (.imm (pc q)), none, none, none] := (show frz 7 [some (.imm S), some (.imm (pc p)), some (.imm (pc p)), some (.imm (.str T)), some (.imm (.int N)), some (.imm (.str z)), some (.imm (pc q)), some (.deep (q.map (List.map nt))), none, none, none] = [some (.imm S), some (.imm (pc p)), some (.imm (pc p)), some (.imm (.str T)), some (.imm (.int N)), some (.imm (.str z)), some (.imm (pc q)), some (.imm (.list ((q.map (List.map nt)).map PyData.list))), none, none, none] from rfl).trans (by rw [deep_pc])
  have t10 : (mFrzT 7 (mOr (mNot (mIsB (mB (mInst "list" (mV 7))))) (m2B pyNe (mV 7) (mV 6)))) [some (.imm S), some (.imm (pc p)), some (.imm (pc p)), some (.imm (.str T)), some (.imm (.int N)), some (.imm (.str z)), some (.imm (pc q)), some (.deep (q.map (List.map nt))), none, none, none] = ret false := by
    unfold mFrzT
    rw [fz]
    have ne : (m2B pyNe (mV 7) (mV 6)) [some (.imm S), some (.imm (pc p)), some (.imm (pc p)), some (.imm (.str T)), some (.imm (.int N)), some (.imm (.str z)), some (.imm (pc q)), some (.imm (pc q)), none, none, none] = ret false := ne_self (Pd.pc q) (by decide)
    rw [w_mOr]
    exact ne
  refine seq_eq (ρ' := [some (.imm S), some (.imm (pc p)), some (.imm (pc p)), some (.imm (.str T)), some (.imm (.int N)), some (.imm (.str z)), some (.imm (pc q)), some (.deep (q.map (List.map nt))), none, none, none]) (by rw [if_f t10]; rfl) ?_
  obtain ⟨x8, x9, hk⟩ := kinds1 (some (.imm S)) (some (.imm (pc p))) (some (.imm (pc p))) (some (.imm (.str T))) (some (.imm (.int N))) (some (.imm (.str z))) (some (.imm (pc q))) (some (.imm (pc q))) q none none
  have fa : frzA [some (.imm S), some (.imm (pc p)), some (.imm (pc p)), some (.imm (.str T)), some (.imm (.int N)), some (.imm (.str z)), some (.imm (pc q)), some (.deep (q.map (List.map nt))), none, none, none] = [some (.imm S), some (.imm (pc p)), some (.imm (pc p)), some (.imm (.str T)), some (.imm (.int N)), some (.imm (.str z)), some (.imm (pc q)), some (.imm (pc q)), none, none, none] := (show frzA [some (.imm S), some (.imm (pc p)), some (.imm (pc p)), some (.imm (.str T)), some (.imm (.int N)), some (.imm (.str z)), some (.imm (pc q)), some (.deep (q.map (List.map nt))), none, none, none] = [some (.imm S), some (.imm (pc p)), some (.imm (pc p)), some (.imm (.str T)), some (.imm (.int N)), some (.imm (.str z)), some (.imm (pc q)), some (.imm (.list ((q.map (List.map nt)).map PyData.list))), none, none, none] from rfl).trans (by rw [deep_pc])
  refine seq_eq (ρ' := [some (.imm S), some (.imm (pc p)), some (.imm (pc p)), some (.imm (.str T)), some (.imm (.int N)), some (.imm (.str z)), some (.imm (pc q)), some (.deep (q.map (List.map nt))), none, none, none]) ?_ ?_
  · have hs : sFor (tgN 8) (mLs (mV 7)) lb_law_1 [some (.imm S), some (.imm (pc p)), some (.imm (pc p)), some (.imm (.str T)), some (.imm (.int N)), some (.imm (.str z)), some (.imm (pc q)), some (.imm (pc q)), none, none, none] = ret (.nx [some (.imm S), some (.imm (pc p)), some (.imm (pc p)), some (.imm (.str T)), some (.imm (.int N)), some (.imm (.str z)), some (.imm (pc q)), some (.imm (pc q)), x8, x9, none]) := hk
    unfold sHold
    rw [fa, hs]
    rfl
  obtain ⟨d0, dr, hd⟩ : ∃ d0 dr, q.map (List.map nt) = d0 :: dr := by
    cases q with
    | nil => exact absurd hq.1 (by decide)
    | cons v r => exact ⟨_, _, rfl⟩
  have hz0 : ((q.map (List.map nt)).getD 0 []).length < 16777216 := by
    cases q with
    | nil => exact absurd hq.1 (by decide)
    | cons v r =>
      show (v.map nt).length < _
      have := hl v List.mem_cons_self
      rw [List.length_map]
      omega
  have hj : ixN (q.map (List.map nt)).length 0 = some 0 := by
    unfold ixN
    rw [List.length_map, if_pos (by decide), if_pos (by have := hq.1; omega)]
    rfl
  obtain ⟨DD, eDD⟩ : ∃ DD, (q.map (List.map nt)).set 0 ((q.map (List.map nt)).getD 0 [] ++ [PyData.tuple [.int 0, .int 1, .int 0]]) = DD := ⟨_, rfl⟩
  refine seq_eq (ρ' := [some (.imm S), some (.imm (pc p)), some (.imm (pc p)), some (.imm (.str T)), some (.imm (.int N)), some (.imm (.str z)), some (.imm (pc q)), some (.deep DD), none, none, none]) ((appR_of (dss := q.map (List.map nt)) (k := 0) (j := 0) (d := .tuple [.int 0, .int 1, .int 0]) rfl rfl hj rfl hz0).trans (by rw [eDD]; rfl)) ?_
  refine ret_of ?_
  have e : mCall F__law_tried (mCons (mV 5) mNil) [some (.imm S), some (.imm (pc p)), some (.imm (pc p)), some (.imm (.str T)), some (.imm (.int N)), some (.imm (.str z)), some (.imm (pc q)), some (.deep DD), none, none, none] = ret (pc q) := (call_of (F := F__law_tried) (ds := [.str z]) rfl).trans ht
  rw [w_mB, w_m2B, e]
  show bnd (pyEq (pc q) (pc q)) _ = _
  rw [eq_self (Pd.pc q) (by decide)]
  rfl
theorem tail_no {S : PyData} {p : List (List Nt)} {T z : Str} {N : Int} (ht : F__law_tried [.str z] = ret REF) : (sSeq (sSetD 7 (mCall F__law_tried (mCons (mV 5) mNil))) (sSeq (sIf (m2B pyIs (mV 6) (mC .none)) (sRet (mFrz 7 (mB (mAnd (mInst "str" (mV 7)) (m2B pyEq (mV 7) (mC (.str (PySem.Str.ofString "refused")))))))) sNx) (sSeq (sIf (mFrzT 7 (mOr (mNot (mIsB (mB (mInst "list" (mV 7))))) (m2B pyNe (mV 7) (mV 6)))) (sRet (mC (.bool false))) sNx) (sSeq (sHold ([8] ++ (([] ++ []) ++ ([9] ++ ([] ++ [])))) (sFor (tgN 8) (mLs (mV 7)) lb_law_1)) (sSeq (sAppR 7 (mC (.int 0)) (mTup (mCons (mC (.int 0)) (mCons (mC (.int 1)) (mCons (mC (.int 0)) mNil))))) (sRet (mB (m2B pyEq (mCall F__law_tried (mCons (mV 5) mNil)) (mV 6))))))))) [some (.imm S), some (.imm (pc p)), some (.imm (pc p)), some (.imm (.str T)), some (.imm (.int N)), some (.imm (.str z)), some (.imm .none), none, none, none, none] = ret (.rt (.bool true)) := by
  refine seq_eq (ρ' := [some (.imm S), some (.imm (pc p)), some (.imm (pc p)), some (.imm (.str T)), some (.imm (.int N)), some (.imm (.str z)), some (.imm .none), some (.imm REF), none, none, none]) ((setD_of (d := REF) ((call_of (F := F__law_tried) (ds := [.str z]) rfl).trans ht)).trans rfl) ?_
  refine seq_rt ?_
  rw [if_t rfl]
  refine ret_of ?_
  have fz : frz 7 [some (.imm S), some (.imm (pc p)), some (.imm (pc p)), some (.imm (.str T)), some (.imm (.int N)), some (.imm (.str z)), some (.imm .none), some (.imm REF), none, none, none] = [some (.imm S), some (.imm (pc p)), some (.imm (pc p)), some (.imm (.str T)), some (.imm (.int N)), some (.imm (.str z)), some (.imm .none), some (.imm REF), none, none, none] := rfl
  rw [w_mFrz, fz]
  have e : (mB (mAnd (mInst "str" (mV 7)) (m2B pyEq (mV 7) (mC (.str (PySem.Str.ofString "refused")))))) [some (.imm S), some (.imm (pc p)), some (.imm (pc p)), some (.imm (.str T)), some (.imm (.int N)), some (.imm (.str z)), some (.imm .none), some (.imm REF), none, none, none] = ret (.bool true) := by
    have e2 : (m2B pyEq (mV 7) (mC (.str (PySem.Str.ofString "refused")))) [some (.imm S), some (.imm (pc p)), some (.imm (pc p)), some (.imm (.str T)), some (.imm (.int N)), some (.imm (.str z)), some (.imm .none), some (.imm REF), none, none, none] = ret true := ref_eq
    rw [w_mB, w_mAnd]
    show bnd (bnd (ret true) _) _ = _
    rw [bnd_ret]
    show bnd ((m2B pyEq (mV 7) (mC (.str (PySem.Str.ofString "refused")))) [some (.imm S), some (.imm (pc p)), some (.imm (pc p)), some (.imm (.str T)), some (.imm (.int N)), some (.imm (.str z)), some (.imm .none), some (.imm REF), none, none, none]) _ = _
    rw [e2]
    rfl
  rw [e]
  rfl
theorem law_true (ns : List Int) (hz : ns.length ≤ 63) : F_law [sc ns] = ret (.bool true) := by
  have f0 : F__law_at [sc ns, .int 0] = ret (.int (ns.getD 0 0)) := F_at ns 0
  have f1 : F__law_at [sc ns, .int 1] = ret (.int (ns.getD 1 0)) := F_at ns 1
  have f2 : F__law_at [sc ns, .int 2] = ret (.int (ns.getD 2 0)) := F_at ns 2
  obtain ⟨p, hp, okp, hpv⟩ := F_pieceT ns hz
  have big : ∀ v ∈ p, v.length ≤ 40 ∧ ∀ n ∈ v, bigN n := fun v hv => ⟨hpv v hv, fun n hn => okN_big ((okp.2.2 v hv).1 n hn)⟩
  have big2 : ∀ v ∈ p, v.length ≤ 20000 ∧ ∀ n ∈ v, bigN n := fun v hv => ⟨Nat.le_trans (hpv v hv) (by decide), (big v hv).2⟩
  have hw := F_written_w (pieceD_pc okp) big2
  have hsh := F_shown_w okp.2.1 big2
  have hT := WD_len okp.2.1 big
  generalize WD (p.map (List.map nt)) = T at hw hsh hT
  generalize hS : sc ns = S at *
  have n3 := num3 f0 f1 f2
  generalize (ns.getD 0 0 * 48271 + ns.getD 1 0 * 16807 + ns.getD 2 0) % 1000003 = N at n3
  have m27 := w_modi (i := N) (j := 27) (by decide)
  have d27 := w_divi (i := N) (j := 27) (by decide)
  have m5 := w_modi (i := N / 27) (j := 5) (by decide)
  have m9 := w_modi (i := N) (j := 9) (by decide)
  have d9 := w_divi (i := N) (j := 9) (by decide)
  refine fnD_of ?_
  show m_law [some (.imm S), none, none, none, none, none, none, none, none, none, none] = _
  unfold m_law
  refine seq_eq (ρ' := [some (.imm S), some (.imm (pc p)), none, none, none, none, none, none, none, none, none]) (set_of ((call_of (F := F__law_pieceT) (ds := [S]) rfl).trans hp)) ?_
  refine seq_eq (ρ' := [some (.imm S), some (.imm (pc p)), some (.imm (pc p)), none, none, none, none, none, none, none, none]) (by
    rw [w_sSet, w_mL, copy_lc (p := p) (by have := okp.2.1; omega) rfl rfl (by show 8 < 11; decide)]
    rfl) ?_
  refine seq_eq (ρ' := [some (.imm S), some (.imm (pc p)), some (.imm (pc p)), some (.imm (.str T)), none, none, none, none, none, none, none]) (set_of ((call_of (F := F_written) (ds := [pc p]) rfl).trans hw)) ?_
  have c3 : (mOr (mNot (mIsB (mB (mInst "str" (mV 3))))) (mOr (m2B pyNe (mV 3) (mCall F__law_shown (mCons (mV 1) mNil))) (m2B pyNe (mV 2) (mV 1)))) [some (.imm S), some (.imm (pc p)), some (.imm (pc p)), some (.imm (.str T)), none, none, none, none, none, none, none] = ret false := by
    have a : (m2B pyNe (mV 3) (mCall F__law_shown (mCons (mV 1) mNil))) [some (.imm S), some (.imm (pc p)), some (.imm (pc p)), some (.imm (.str T)), none, none, none, none, none, none, none] = ret false := by
      have q : (mCall F__law_shown (mCons (mV 1) mNil)) [some (.imm S), some (.imm (pc p)), some (.imm (pc p)), some (.imm (.str T)), none, none, none, none, none, none, none] = ret (.str T) := (call_of (F := F__law_shown) (ds := [pc p]) rfl).trans hsh
      rw [w_m2B, q]
      show pyNe (.str T) (.str T) = _
      rw [str_ne, beq_self_eq_true]
      rfl
    have b : (m2B pyNe (mV 2) (mV 1)) [some (.imm S), some (.imm (pc p)), some (.imm (pc p)), some (.imm (.str T)), none, none, none, none, none, none, none] = ret false := ne_self (Pd.pc p) (by decide)
    rw [w_mOr]
    show bnd (ret false) _ = _
    rw [bnd_ret, if_neg (by decide), w_mOr, a, bnd_ret, if_neg (by decide), b]
  refine seq_eq (ρ' := [some (.imm S), some (.imm (pc p)), some (.imm (pc p)), some (.imm (.str T)), none, none, none, none, none, none, none]) (by rw [if_f c3]; rfl) ?_
  refine seq_eq (ρ' := [some (.imm S), some (.imm (pc p)), some (.imm (pc p)), some (.imm (.str T)), some (.imm (.int N)), none, none, none, none, none, none]) (set_of (n3 _)) ?_
  have c5 : (m2B pyEq (m2 pyMod (mV 4) (mC (.int 27))) (mC (.int 26))) [some (.imm S), some (.imm (pc p)), some (.imm (pc p)), some (.imm (.str T)), some (.imm (.int N)), none, none, none, none, none, none] = ret (decide (N % 27 = 26)) := by
    simp only [w_m2B, w_m2, w_mVs, w_mV0, w_mC, bnd_ret, m27, w_eqi]
  by_cases h26 : N % 27 = 26
  · refine seq_rt ?_
    rw [if_t (by rw [c5, decide_eq_true h26])]
    obtain ⟨d, hd, hdm⟩ := ix_in (l := ODDS) (i := N / 27 % 5) ⟨by omega, by show _ < 5; omega⟩
    have LO : (mL (mLst (mCons (mC .none) (mCons (mC (.int 7)) (mCons (mC (.bool true)) (mCons (mL (mLst (mCons (mC (.str (PySem.Str.ofString "0 1 0"))) mNil))) (mCons (mTup (mCons (mC (.str (PySem.Str.ofString "0 1 0"))) mNil)) mNil))))))) = fun _ => ret (.list ODDS) := rfl
    have e : (mCall F__law_tried (mCons (m2 pyIx (mL (mLst (mCons (mC .none) (mCons (mC (.int 7)) (mCons (mC (.bool true)) (mCons (mL (mLst (mCons (mC (.str (PySem.Str.ofString "0 1 0"))) mNil))) (mCons (mTup (mCons (mC (.str (PySem.Str.ofString "0 1 0"))) mNil)) mNil))))))) (m2 pyMod (m2 pyDiv (mV 4) (mC (.int 27))) (mC (.int 5)))) mNil)) [some (.imm S), some (.imm (pc p)), some (.imm (pc p)), some (.imm (.str T)), some (.imm (.int N)), none, none, none, none, none, none] = ret REF := by
      refine (call_of (F := F__law_tried) (ds := [d]) ?_).trans (tried_odd d hdm)
      rw [LO]
      simp only [w_mCons, w_mNil, w_m2, w_mVs, w_mV0, w_mC, bnd_ret, d27, m5, hd]
    refine ret_of ?_
    rw [w_mB, w_m2B, e]
    show bnd (pyEq REF (.str (PySem.Str.ofString "refused"))) _ = _
    rw [ref_eq]
    rfl
  · refine seq_eq (ρ' := [some (.imm S), some (.imm (pc p)), some (.imm (pc p)), some (.imm (.str T)), some (.imm (.int N)), none, none, none, none, none, none]) (by rw [if_f (by rw [c5, decide_eq_false h26])]; rfl) ?_
    obtain ⟨way, hway⟩ : ∃ way : Int, pyIx (.list ([0, 0, 1, 1, 2, 3, 3, 4, 4].map PyData.int)) (.int (N % 9)) = ret (.int way) := ix_ints ⟨by omega, by show _ < 9; omega⟩
    obtain ⟨z, hbz, hzl⟩ := F_bent_w (z := T) (by omega) way (N / 9)
    have LW : (mL (mLst (mCons (mC (.int 0)) (mCons (mC (.int 0)) (mCons (mC (.int 1)) (mCons (mC (.int 1)) (mCons (mC (.int 2)) (mCons (mC (.int 3)) (mCons (mC (.int 3)) (mCons (mC (.int 4)) (mCons (mC (.int 4)) mNil))))))))))) = fun _ => ret (.list ([0, 0, 1, 1, 2, 3, 3, 4, 4].map PyData.int)) := rfl
    refine seq_eq (ρ' := [some (.imm S), some (.imm (pc p)), some (.imm (pc p)), some (.imm (.str T)), some (.imm (.int N)), some (.imm (.str z)), none, none, none, none, none]) (set_of ((call_of (F := F__law_bent) (ds := [.str T, .int way, .int (N / 9)]) (by
      rw [LW]
      simp only [w_mCons, w_mNil, w_m2, w_mVs, w_mV0, w_mC, bnd_ret, m9, d9, hway])).trans hbz)) ?_
    have hdue := F_piece_of_w (z := z) (by omega)
    have hrd := F_read_w (z := z) (by omega)
    rw [← okZ_eq] at hdue
    cases ok : okZ z with
    | true =>
      rw [ok, if_pos rfl] at hdue hrd
      have hpd : pieceD (PD z) = true := by
        unfold okZ at ok
        rw [Bool.and_eq_true, Bool.and_eq_true] at ok
        exact ok.2.1
      obtain ⟨q, hq1, hq2, hq3⟩ := pieceD_inv hpd
      rw [hq2] at hdue hrd
      refine seq_eq (ρ' := [some (.imm S), some (.imm (pc p)), some (.imm (pc p)), some (.imm (.str T)), some (.imm (.int N)), some (.imm (.str z)), some (.imm (pc q)), none, none, none, none]) (set_of ((call_of (F := F__law_piece_of) (ds := [.str z]) rfl).trans hdue)) ?_
      refine tail_ok hq3 (fun v hv => ?_) (tried_ok hrd)
      have : v.map nt ∈ (rowsZ z).map vo := by
        rw [hq1]
        exact List.mem_map_of_mem hv
      obtain ⟨r, hr, er⟩ := List.mem_map.mp this
      have a := vo_len r
      rw [er, List.length_map] at a
      have b := part_len hr
      omega
    | false =>
      rw [ok, if_neg (by decide)] at hdue hrd
      refine seq_eq (ρ' := [some (.imm S), some (.imm (pc p)), some (.imm (pc p)), some (.imm (.str T)), some (.imm (.int N)), some (.imm (.str z)), some (.imm .none), none, none, none, none]) (set_of ((call_of (F := F__law_piece_of) (ds := [.str z]) rfl).trans hdue)) ?_
      exact tail_no (tried_er hrd rfl)
end VW
namespace VW
open PySem PySem.Spec PyProof.Rows L2
def topS (i : Nat) : Stmt := PySem.Challenge.pw_voiceweave_k13_texts.main.body.getD i (.Pass ⟨0, 0, 0, 0⟩)
structure Txt (K : PySem.W.Frag) (mg : Str → Option Value) (cl : Ex → Addr) : Prop where
  b_ValueError : mg "ValueError" = none
  b_bool : mg "bool" = none
  b_enumerate : mg "enumerate" = none
  b_int : mg "int" = none
  b_isinstance : mg "isinstance" = none
  b_len : mg "len" = none
  b_list : mg "list" = none
  b_min : mg "min" = none
  b_range : mg "range" = none
  b_str : mg "str" = none
  b_tuple : mg "tuple" = none
  c_FIGURES : Con1 K mg "FIGURES" (.str (PySem.Str.ofString "0123456789"))
  c_LAST : Con1 K mg "LAST" (.int 100000)
  c_MOST_FIGURES : Con1 K mg "MOST_FIGURES" (.int 6)
  c_MOST_PITCH : Con1 K mg "MOST_PITCH" (.int 200)
  c_MOST_VOICES : Con1 K mg "MOST_VOICES" (.int 6)
  g_BadEntry : mg "BadEntry" = some (.ref (cl .entry))
  g_BadNumber : mg "BadNumber" = some (.ref (cl .number))
  g_BadPiece : mg "BadPiece" = some (.ref (cl .piece))
  g_BadTheme : mg "BadTheme" = some (.ref (cl .theme))
  g_Clash : mg "Clash" = some (.ref (cl .clash))
  g_NoText : mg "NoText" = some (.ref (cl .text))
  g_OutOfRange : mg "OutOfRange" = some (.ref (cl .range))
  g_Uneven : mg "Uneven" = some (.ref (cl .uneven))
  g_WeaveError : mg "WeaveError" = some (.ref (cl .weave))
  e_text : ExcC K (cl .text)
  k_text_BadEntry : PySem.W.kitOne K (.ref (cl .text)) (.ref (cl .entry)) = some false
  k_text_BadNumber : PySem.W.kitOne K (.ref (cl .text)) (.ref (cl .number)) = some false
  k_text_BadPiece : PySem.W.kitOne K (.ref (cl .text)) (.ref (cl .piece)) = some false
  k_text_BadTheme : PySem.W.kitOne K (.ref (cl .text)) (.ref (cl .theme)) = some false
  k_text_Clash : PySem.W.kitOne K (.ref (cl .text)) (.ref (cl .clash)) = some false
  k_text_NoText : PySem.W.kitOne K (.ref (cl .text)) (.ref (cl .text)) = some true
  k_text_OutOfRange : PySem.W.kitOne K (.ref (cl .text)) (.ref (cl .range)) = some false
  k_text_Uneven : PySem.W.kitOne K (.ref (cl .text)) (.ref (cl .uneven)) = some false
  k_text_ValueError : PySem.W.kitOne K (.ref (cl .text)) (.type "ValueError") = some true
  m_piece : PySem.W.exmOne K (.ref (cl .piece)) (.ref (cl .piece)) = some true
  m_text : PySem.W.exmOne K (.ref (cl .text)) (.ref (cl .weave)) = some true
  x_BadPiece : PySem.W.excIn K (cl .piece) [.type "ValueError", .type "Exception", .type "BaseException", .type "object"] "ValueError.__new__" = true ∧ mg "BadPiece" = some (.ref (cl .piece)) ∧ PySem.W.keepIn K (.ref (cl .piece)) = true ∧ PySem.W.subIn K (.ref (cl .piece)) (.type "BaseException") = some true ∧ PySem.W.typeIn K (.ref (cl .piece)) = some (.type "type")
  x_NoText : PySem.W.excIn K (cl .text) [.type "ValueError", .type "Exception", .type "BaseException", .type "object"] "ValueError.__new__" = true ∧ mg "NoText" = some (.ref (cl .text)) ∧ PySem.W.keepIn K (.ref (cl .text)) = true ∧ PySem.W.subIn K (.ref (cl .text)) (.type "BaseException") = some true ∧ PySem.W.typeIn K (.ref (cl .text)) = some (.type "type")
section
variable {P : Program} {w : World} {K : PySem.W.Frag} {mg : Str → Option Value} {base : Heap} {cl : Ex → Addr}
abbrev s_is_whole : Stmt := topS 14
theorem sc_is_whole : FnScope ["thing"] ["thing"] (defScope s_is_whole) := ⟨rfl, rfl, rfl, by decide +kernel, rfl, by decide +kernel, by decide +kernel⟩
theorem ok_is_whole {f : Addr} {fd : FuncData} (F : Fun K "is_whole" "is_whole" s_is_whole f fd) (T : Txt K mg cl)  : FnOk P w K mg base (L2.CX P w) 1 f fd ["thing"] (spD K cl 1 F_is_whole) := by
  refine Fun.okD (N := ["thing"]) (ps := ["thing"]) (b := m_is_whole) F sc_is_whole fun cdv A outer s H E hr => ?_
  exact ⟨_, (gss_one (gs_ret (ge_and (ge_inst (by decide) T.b_isinstance T.b_int (by decide +kernel) (ge_v 0)) (ge_one (ge_not (ge_inst (by decide) T.b_isinstance T.b_bool (by decide +kernel) (ge_v 0)))))))⟩
theorem okN_is_whole {f : Addr} {fd : FuncData} (F : Fun K "is_whole" "is_whole" s_is_whole f fd) (T : Txt K mg cl)  : FnOk P w K mg base (L2N.CX P w) 1 f fd ["thing"] (spD K cl 1 F_is_whole) := by
  refine Fun.okDN (N := ["thing"]) (ps := ["thing"]) (b := m_is_whole) F sc_is_whole fun cdv A outer s H E hr => ?_
  exact ⟨_, (gss_one (gs_ret (ge_and (ge_inst (by decide) T.b_isinstance T.b_int (by decide +kernel) (ge_v 0)) (ge_one (ge_not (ge_inst (by decide) T.b_isinstance T.b_bool (by decide +kernel) (ge_v 0)))))))⟩
abbrev s_is_note : Stmt := topS 15
theorem sc_is_note : FnScope ["thing", "part"] ["thing"] (defScope s_is_note) := ⟨rfl, rfl, rfl, by decide +kernel, rfl, by decide +kernel, by decide +kernel⟩
theorem ok_is_note {f : Addr} {fd : FuncData} (F : Fun K "is_note" "is_note" s_is_note f fd) (T : Txt K mg cl) (h_is_whole : FD P w K mg base cl "is_whole" 1 1 F_is_whole) : FnOk P w K mg base (L2.CX P w) 2 f fd ["thing"] (spD K cl 1 F_is_note) := by
  refine Fun.okD (N := ["thing", "part"]) (ps := ["thing"]) (b := m_is_note) F sc_is_note fun cdv A outer s H E hr => ?_
  exact ⟨_, (gss_cons (gs_if (gw_or (gt_not (gt_val (ge_inst (by decide) T.b_isinstance T.b_tuple (by decide +kernel) (ge_v 0)))) (gw_or1 (gt_ne (ge_len T.b_len (ga_cons (ge_v 0) ga_nil)) ge_int hr.units))).t (gss_one (gs_ret ge_bl)) gss_nil) (gss_cons (gs_for (b := lb_is_note_1) hp_def rfl (gi_tup (ge_v 0)) (gg_name 1 sc_is_note.nd) (gss_one (gs_if (gt_not (gt_val (ge_call h_is_whole (hr.mono (by decide)) tk_def (ga_cons (ge_v 1) ga_nil) (cons_len nil_len)))) (gss_one (gs_ret ge_bl)) gss_nil))) (gss_cons (gs_if (gw_or (gt_lt (ge_ix (ge_v 0) ge_int) ge_int) (gw_or (gt_lt (ge_ix (ge_v 0) ge_int) ge_int) (gw_or1 (gt_gt (ge_add (ge_ix (ge_v 0) ge_int) (ge_ix (ge_v 0) ge_int)) (ge_const T.c_LAST))))).t (gss_one (gs_ret ge_bl)) gss_nil) (gss_one (gs_ret (ge_chain op_le op_le dr_int ne_int dr_int ne_int (ge_neg (ge_const T.c_MOST_PITCH)) (ge_ix (ge_v 0) ge_int) (ge_const T.c_MOST_PITCH) (fun p1 p2 p3 => pe_chain op_le op_le p1 p2 p3)))))))⟩
theorem okN_is_note {f : Addr} {fd : FuncData} (F : Fun K "is_note" "is_note" s_is_note f fd) (T : Txt K mg cl) (hN_is_whole : FDN P w K mg base cl "is_whole" 1 1 F_is_whole) : FnOk P w K mg base (L2N.CX P w) 2 f fd ["thing"] (spD K cl 1 F_is_note) := by
  refine Fun.okDN (N := ["thing", "part"]) (ps := ["thing"]) (b := m_is_note) F sc_is_note fun cdv A outer s H E hr => ?_
  exact ⟨_, (gss_cons (gs_if (gw_or (gt_not (gt_val (ge_inst (by decide) T.b_isinstance T.b_tuple (by decide +kernel) (ge_v 0)))) (gw_or1 (gt_ne (ge_len T.b_len (ga_cons (ge_v 0) ga_nil)) ge_int hr.units))).t (gss_one (gs_ret ge_bl)) gss_nil) (gss_cons (gs_for (b := lb_is_note_1) hp_defN rfl (gi_tup (ge_v 0)) (gg_name 1 sc_is_note.nd) (gss_one (gs_if (gt_not (gt_val (ge_callN hN_is_whole (hr.mono (by decide)) tk_defN (ga_cons (ge_v 1) ga_nil) (cons_len nil_len)))) (gss_one (gs_ret ge_bl)) gss_nil))) (gss_cons (gs_if (gw_or (gt_lt (ge_ix (ge_v 0) ge_int) ge_int) (gw_or (gt_lt (ge_ix (ge_v 0) ge_int) ge_int) (gw_or1 (gt_gt (ge_add (ge_ix (ge_v 0) ge_int) (ge_ix (ge_v 0) ge_int)) (ge_const T.c_LAST))))).t (gss_one (gs_ret ge_bl)) gss_nil) (gss_one (gs_ret (ge_chain op_le op_le dr_int ne_int dr_int ne_int (ge_neg (ge_const T.c_MOST_PITCH)) (ge_ix (ge_v 0) ge_int) (ge_const T.c_MOST_PITCH) (fun p1 p2 p3 => pe_chain op_le op_le p1 p2 p3)))))))⟩
abbrev s_end_of : Stmt := topS 16
theorem sc_end_of : FnScope ["note"] ["note"] (defScope s_end_of) := ⟨rfl, rfl, rfl, by decide +kernel, rfl, by decide +kernel, by decide +kernel⟩
theorem ok_end_of {f : Addr} {fd : FuncData} (F : Fun K "end_of" "end_of" s_end_of f fd) (T : Txt K mg cl)  : FnOk P w K mg base (L2.CX P w) 1 f fd ["note"] (spD K cl 1 F_end_of) := by
  refine Fun.okD (N := ["note"]) (ps := ["note"]) (b := m_end_of) F sc_end_of fun cdv A outer s H E hr => ?_
  exact ⟨_, (gss_one (gs_ret (ge_add (ge_ix (ge_v 0) ge_int) (ge_ix (ge_v 0) ge_int))))⟩
theorem okN_end_of {f : Addr} {fd : FuncData} (F : Fun K "end_of" "end_of" s_end_of f fd) (T : Txt K mg cl)  : FnOk P w K mg base (L2N.CX P w) 1 f fd ["note"] (spD K cl 1 F_end_of) := by
  refine Fun.okDN (N := ["note"]) (ps := ["note"]) (b := m_end_of) F sc_end_of fun cdv A outer s H E hr => ?_
  exact ⟨_, (gss_one (gs_ret (ge_add (ge_ix (ge_v 0) ge_int) (ge_ix (ge_v 0) ge_int))))⟩
abbrev s_is_voice : Stmt := topS 17
theorem sc_is_voice : FnScope ["thing", "end", "note"] ["thing"] (defScope s_is_voice) := ⟨rfl, rfl, rfl, by decide +kernel, rfl, by decide +kernel, by decide +kernel⟩
theorem ok_is_voice {f : Addr} {fd : FuncData} (F : Fun K "is_voice" "is_voice" s_is_voice f fd) (T : Txt K mg cl) (h_is_note : FD P w K mg base cl "is_note" 2 1 F_is_note) (h_end_of : FD P w K mg base cl "end_of" 1 1 F_end_of) : FnOk P w K mg base (L2.CX P w) 3 f fd ["thing"] (spD K cl 1 F_is_voice) := by
  refine Fun.okD (N := ["thing", "end", "note"]) (ps := ["thing"]) (b := m_is_voice) F sc_is_voice fun cdv A outer s H E hr => ?_
  exact ⟨_, (gss_cons (gs_if (gt_not (gt_val (ge_inst (by decide) T.b_isinstance T.b_list (by decide +kernel) (ge_v 0)))) (gss_one (gs_ret ge_bl)) gss_nil) (gss_cons (gs_set 1 sc_is_voice.nd ge_int) (gss_cons (gs_for (b := lb_is_voice_1) hp_def rfl (gi_list (ge_v 0)) (gg_name 2 sc_is_voice.nd) (gss_cons (gs_if (gw_or (gt_not (gt_val (ge_call h_is_note (hr.mono (by decide)) tk_def (ga_cons (ge_v 2) ga_nil) (cons_len nil_len)))) (gw_or1 (gt_lt (ge_ix (ge_v 2) ge_int) (ge_v 1)))).t (gss_one (gs_ret ge_bl)) gss_nil) (gss_one (gs_set 1 sc_is_voice.nd (ge_call h_end_of (hr.mono (by decide)) tk_def (ga_cons (ge_v 2) ga_nil) (cons_len nil_len)))))) (gss_one (gs_ret ge_bl)))))⟩
theorem okN_is_voice {f : Addr} {fd : FuncData} (F : Fun K "is_voice" "is_voice" s_is_voice f fd) (T : Txt K mg cl) (hN_is_note : FDN P w K mg base cl "is_note" 2 1 F_is_note) (hN_end_of : FDN P w K mg base cl "end_of" 1 1 F_end_of) : FnOk P w K mg base (L2N.CX P w) 3 f fd ["thing"] (spD K cl 1 F_is_voice) := by
  refine Fun.okDN (N := ["thing", "end", "note"]) (ps := ["thing"]) (b := m_is_voice) F sc_is_voice fun cdv A outer s H E hr => ?_
  exact ⟨_, (gss_cons (gs_if (gt_not (gt_val (ge_inst (by decide) T.b_isinstance T.b_list (by decide +kernel) (ge_v 0)))) (gss_one (gs_ret ge_bl)) gss_nil) (gss_cons (gs_set 1 sc_is_voice.nd ge_int) (gss_cons (gs_for (b := lb_is_voice_1) hp_defN rfl (gi_list (ge_v 0)) (gg_name 2 sc_is_voice.nd) (gss_cons (gs_if (gw_or (gt_not (gt_val (ge_callN hN_is_note (hr.mono (by decide)) tk_defN (ga_cons (ge_v 2) ga_nil) (cons_len nil_len)))) (gw_or1 (gt_lt (ge_ix (ge_v 2) ge_int) (ge_v 1)))).t (gss_one (gs_ret ge_bl)) gss_nil) (gss_one (gs_set 1 sc_is_voice.nd (ge_callN hN_end_of (hr.mono (by decide)) tk_defN (ga_cons (ge_v 2) ga_nil) (cons_len nil_len)))))) (gss_one (gs_ret ge_bl)))))⟩
abbrev s_need_piece : Stmt := topS 18
theorem sc_need_piece : FnScope ["piece", "voice"] ["piece"] (defScope s_need_piece) := ⟨rfl, rfl, rfl, by decide +kernel, rfl, by decide +kernel, by decide +kernel⟩
theorem ok_need_piece {f : Addr} {fd : FuncData} (F : Fun K "need_piece" "need_piece" s_need_piece f fd) (T : Txt K mg cl) (h_is_voice : FD P w K mg base cl "is_voice" 3 1 F_is_voice) : FnOk P w K mg base (L2.CX P w) 4 f fd ["piece"] (spD K cl 1 F_need_pieceX) := by
  refine Fun.okD (N := ["piece", "voice"]) (ps := ["piece"]) (b := m_need_pieceX) F sc_need_piece fun cdv A outer s H E hr => ?_
  exact ⟨_, (gss_cons (gs_if (gw_or (gt_not (gt_val (ge_inst (by decide) T.b_isinstance T.b_list (by decide +kernel) (ge_v 0)))) (gw_or1 (gt_not (gt_chain op_le op_le dr_int ne_int dr_int ne_int ge_int (ge_len T.b_len (ga_cons (ge_v 0) ga_nil)) (ge_const T.c_MOST_VOICES) (fun p1 p2 p3 => pt_chain op_le op_le p1 p2 p3))))).t (gss_one (gs_raise .piece rfl tk_def (T.x_BadPiece).1 (T.x_BadPiece).2.1 (T.x_BadPiece).2.2.1 (raises_own (T.x_BadPiece).2.2.2.1 (T.x_BadPiece).2.2.2.2))) gss_nil) (gss_one (gs_for (b := lb_need_pieceX_1) hp_def rfl (gi_list (ge_v 0)) (gg_name 1 sc_need_piece.nd) (gss_one (gs_if (gt_not (gt_val (ge_call h_is_voice (hr.mono (by decide)) tk_def (ga_cons (ge_v 1) ga_nil) (cons_len nil_len)))) (gss_one (gs_raise .piece rfl tk_def (T.x_BadPiece).1 (T.x_BadPiece).2.1 (T.x_BadPiece).2.2.1 (raises_own (T.x_BadPiece).2.2.2.1 (T.x_BadPiece).2.2.2.2))) gss_nil)))))⟩
theorem okN_need_piece {f : Addr} {fd : FuncData} (F : Fun K "need_piece" "need_piece" s_need_piece f fd) (T : Txt K mg cl) (hN_is_voice : FDN P w K mg base cl "is_voice" 3 1 F_is_voice) : FnOk P w K mg base (L2N.CX P w) 4 f fd ["piece"] (spD K cl 1 F_need_pieceX) := by
  refine Fun.okDN (N := ["piece", "voice"]) (ps := ["piece"]) (b := m_need_pieceX) F sc_need_piece fun cdv A outer s H E hr => ?_
  exact ⟨_, (gss_cons (gs_if (gw_or (gt_not (gt_val (ge_inst (by decide) T.b_isinstance T.b_list (by decide +kernel) (ge_v 0)))) (gw_or1 (gt_not (gt_chain op_le op_le dr_int ne_int dr_int ne_int ge_int (ge_len T.b_len (ga_cons (ge_v 0) ga_nil)) (ge_const T.c_MOST_VOICES) (fun p1 p2 p3 => pt_chain op_le op_le p1 p2 p3))))).t (gss_one (gs_raiseN .piece rfl tk_defN (T.x_BadPiece).1 (T.x_BadPiece).2.1 (T.x_BadPiece).2.2.1 (raises_own (T.x_BadPiece).2.2.2.1 (T.x_BadPiece).2.2.2.2))) gss_nil) (gss_one (gs_for (b := lb_need_pieceX_1) hp_defN rfl (gi_list (ge_v 0)) (gg_name 1 sc_need_piece.nd) (gss_one (gs_if (gt_not (gt_val (ge_callN hN_is_voice (hr.mono (by decide)) tk_defN (ga_cons (ge_v 1) ga_nil) (cons_len nil_len)))) (gss_one (gs_raiseN .piece rfl tk_defN (T.x_BadPiece).1 (T.x_BadPiece).2.1 (T.x_BadPiece).2.2.1 (raises_own (T.x_BadPiece).2.2.2.1 (T.x_BadPiece).2.2.2.2))) gss_nil)))))⟩
abbrev s_written : Stmt := topS 22
abbrev sc_59_30 : Scope := { kind := .function, names := [(PySem.Str.ofString ".0", .local), (PySem.Str.ofString "note", .local)], isGenerator := false, isCoroutine := false, more := [] }
abbrev sc_59_40 : Scope := { kind := .function, names := [(PySem.Str.ofString ".0", .local), (PySem.Str.ofString "part", .local), (PySem.Str.ofString "str", .globalImplicit)], isGenerator := false, isCoroutine := false, more := [] }
theorem sc_written : FnScope ["piece", "rows", "voice", "note", "part"] ["piece"] (defScope s_written) := ⟨rfl, rfl, rfl, by decide +kernel, rfl, by decide +kernel, by decide +kernel⟩
theorem ok_written {f : Addr} {fd : FuncData} (F : Fun K "written" "written" s_written f fd) (T : Txt K mg cl) (h_need_piece : FD P w K mg base cl "need_piece" 4 1 F_need_pieceX) : FnOk P w K mg base (L2.CX P w) 5 f fd ["piece"] (spD K cl 1 F_written) := by
  refine Fun.okD (N := ["piece", "rows", "voice", "note", "part"]) (ps := ["piece"]) (b := m_written) F sc_written fun cdv A outer s H E hr => ?_
  exact ⟨_, (gss_cons (gs_expr (ge_call h_need_piece (hr.mono (by decide)) tk_def (ga_cons (ge_v 0) ga_nil) (cons_len nil_len))) (gss_cons (gs_own 1 sc_written.nd (gf_lst ga_nil)) (gss_cons (gs_for (b := lb_written_1) hp_def rfl (gi_list (ge_v 0)) (gg_name 2 sc_written.nd) (gss_one (gs_app 1 (ge_join ge_str (gf_lc [("note", 3)] rfl sc_written.nd (gi_list (ge_v 2)) (blkOk_by (N := ["piece", "rows", "voice", "note", "part"]) (sc := (defScope s_written)) (by decide +kernel)) (by decide) (fun _ _ _ _ _ => (gg_name 3 sc_written.nd)) (fun _ _ _ _ _ => (ge_join ge_str (gf_lc [("part", 4)] rfl sc_written.nd (gi_tup (ge_v 3)) (blkOk_by (N := ["piece", "rows", "voice", "note", "part"]) (sc := (relS sc_59_30 (defScope s_written))) (by decide +kernel)) (by decide) (fun _ _ _ _ _ => (gg_name 4 sc_written.nd)) (fun _ _ _ _ _ => (ge_strI T.b_str (ga_cons (ge_v 4) ga_nil)))).ge))).ge)))) (gss_frz 1 (gss_one (gs_ret (ge_join ge_str (ge_v 1))))))))⟩
abbrev s_number_of : Stmt := topS 23
theorem sc_number_of : FnScope ["word", "figures", "sign"] ["word"] (defScope s_number_of) := ⟨rfl, rfl, rfl, by decide +kernel, rfl, by decide +kernel, by decide +kernel⟩
theorem ok_number_of {f : Addr} {fd : FuncData} (F : Fun K "number_of" "number_of" s_number_of f fd) (T : Txt K mg cl)  : FnOk P w K mg base (L2.CX P w) 1 f fd ["word"] (spD K cl 1 F_number_of) := by
  refine Fun.okD (N := ["word", "figures", "sign"]) (ps := ["word"]) (b := m_number_of) F sc_number_of fun cdv A outer s H E hr => ?_
  exact ⟨_, (gss_cons (gs_set 1 sc_number_of.nd (ge_v 0)) (gss_cons (gs_if (gt_val (ge_startswith (ge_v 0) ge_str)) (gss_one (gs_set 1 sc_number_of.nd (ge_slice (ge_v 0) (go_some ge_int) go_none))) gss_nil) (gss_cons (gs_if (gw_or (gt_eq (ge_v 1) ge_str hr.units) (gw_or1 (gt_gt (ge_len T.b_len (ga_cons (ge_v 1) ga_nil)) (ge_const T.c_MOST_FIGURES)))).t (gss_one (gs_raise .text rfl tk_def (T.x_NoText).1 (T.x_NoText).2.1 (T.x_NoText).2.2.1 (raises_own (T.x_NoText).2.2.2.1 (T.x_NoText).2.2.2.2))) gss_nil) (gss_cons (gs_for (b := lb_number_of_1) hp_def rfl (gi_str (ge_v 1)) (gg_name 2 sc_number_of.nd) (gss_one (gs_if (gt_notIn (ge_v 2) (ge_const T.c_FIGURES) hr.units) (gss_one (gs_raise .text rfl tk_def (T.x_NoText).1 (T.x_NoText).2.1 (T.x_NoText).2.2.1 (raises_own (T.x_NoText).2.2.2.1 (T.x_NoText).2.2.2.2))) gss_nil))) (gss_one (gs_ret (ge_intT T.b_int (ga_cons (ge_v 0) ga_nil))))))))⟩
abbrev s_voice_of : Stmt := topS 24
abbrev sc_74_11 : Scope := { kind := .function, names := [(PySem.Str.ofString ".0", .local), (PySem.Str.ofString "part", .local), (PySem.Str.ofString "tuple", .globalImplicit)], isGenerator := false, isCoroutine := false, more := [] }
abbrev sc_74_18 : Scope := { kind := .function, names := [(PySem.Str.ofString ".0", .local), (PySem.Str.ofString "word", .local), (PySem.Str.ofString "number_of", .globalImplicit)], isGenerator := false, isCoroutine := false, more := [] }
theorem sc_voice_of : FnScope ["row", "part", "word"] ["row"] (defScope s_voice_of) := ⟨rfl, rfl, rfl, by decide +kernel, rfl, by decide +kernel, by decide +kernel⟩
theorem ok_voice_of {f : Addr} {fd : FuncData} (F : Fun K "voice_of" "voice_of" s_voice_of f fd) (T : Txt K mg cl) (h_number_of : FD P w K mg base cl "number_of" 1 1 F_number_of) : FnOk P w K mg base (L2.CX P w) 2 f fd ["row"] (spF K cl 1 F_voice_of) := by
  refine Fun.okF (N := ["row", "part", "word"]) (ps := ["row"]) (b := m_voice_of) F sc_voice_of fun cdv A outer s H E hr => ?_
  exact ⟨_, (gss_cons (gs_if (gt_eq (ge_v 0) ge_str hr.units) (gss_one (gs_retF (gf_lst ga_nil))) gss_nil) (gss_one (gs_retF (gf_lcR [("part", 1)] rfl sc_voice_of.nd on_def tf_def (gi_list (ge_split (ge_v 0) ge_str)) (blkOk_by (N := ["row", "part", "word"]) (sc := (defScope s_voice_of)) (by decide +kernel)) (by decide) ng_tgN (fun _ _ _ _ _ => (gg_name 1 sc_voice_of.nd)) (fun _ _ _ _ _ _ _ tb1 => (ge_tuple T.b_tuple (ga_cons (gf_lcR [("word", 2)] rfl sc_voice_of.nd tb1.on tb1.tf (gi_list (ge_split (ge_v 1) ge_str)) (blkOk_by (N := ["row", "part", "word"]) (sc := (relS sc_74_11 (defScope s_voice_of))) (by decide +kernel)) (by decide) ng_tgN (fun _ _ _ _ _ => (gg_name 2 sc_voice_of.nd)) (fun _ _ _ _ _ _ _ tb2 => (ge_call h_number_of (hr.mono (by decide)) tb2.tk (ga_cons (ge_v 2) ga_nil) (cons_len nil_len)))).ge ga_nil)))))))⟩
abbrev s_read : Stmt := topS 25
abbrev sc_78_12 : Scope := { kind := .function, names := [(PySem.Str.ofString ".0", .local), (PySem.Str.ofString "row", .local), (PySem.Str.ofString "voice_of", .globalImplicit)], isGenerator := false, isCoroutine := false, more := [] }
theorem sc_read : FnScope ["text", "piece", "row"] ["text"] (defScope s_read) := ⟨rfl, rfl, rfl, by decide +kernel, rfl, by decide +kernel, by decide +kernel⟩
theorem ok_read {f : Addr} {fd : FuncData} (F : Fun K "read" "read" s_read f fd) (T : Txt K mg cl) (h_written : FD P w K mg base cl "written" 5 1 F_written) (h_voice_of : FF P w K mg base cl "voice_of" 2 1 F_voice_of) (hN_need_piece : FDN P w K mg base cl "need_piece" 4 1 F_need_pieceX) : FnOk P w K mg base (L2.CX P w) 6 f fd ["text"] (spX K cl 1 F_read) := by
  refine Fun.okP (N := ["text", "piece", "row"]) (ps := ["text"]) (b := m_read) F sc_read fun cdv A outer s H E hr => ?_
  exact ⟨_, (gss_cons (gs_if (gt_not (gt_val (ge_inst (by decide) T.b_isinstance T.b_str (by decide +kernel) (ge_v 0)))) (gss_one (gs_raise .text rfl tk_def (T.x_NoText).1 (T.x_NoText).2.1 (T.x_NoText).2.2.1 (raises_own (T.x_NoText).2.2.2.1 (T.x_NoText).2.2.2.2))) gss_nil) (gss_cons (gs_setDLc 1 [("row", 2)] rfl sc_read.nd on_def tf_def (gi_list (ge_split (ge_v 0) ge_str)) (blkOk_by (N := ["text", "piece", "row"]) (sc := (defScope s_read)) (by decide +kernel)) (by decide) ng_tgN (fun _ _ _ _ _ => (gg_name 2 sc_read.nd)) (fun _ _ _ _ _ _ _ tb1 => (gf_call h_voice_of (hr.mono (by decide)) tb1.tk (ga_cons (ge_v 2) ga_nil) (cons_len nil_len))) (sw_true rfl rfl rfl (by decide +kernel))) (gss_cons (gs_tryR (s := (sDrop (mFrz 1 (mCall F_need_pieceX (mCons (mV 1) mNil))))) .text g_read tk_def hpa_def ⟨rfl, by decide, .inl T.g_BadPiece⟩ (by intro n hg; cases n; (case piece => exact T.m_piece); all_goals (have hg' : false = true := hg; cases hg')) (fun W' pn xe tk' hp' => (gss_one (gs_expr (ge_frz 1 (ge_callN hN_need_piece (hr.mono (by decide)) tk' (ga_cons (ge_v 1) ga_nil) (cons_len nil_len)))))) (T.x_NoText).1 (T.x_NoText).2.1 (T.x_NoText).2.2.1 (raises_own (T.x_NoText).2.2.2.1 (T.x_NoText).2.2.2.2)) (gss_cons (gs_if (gt_frz 1 (gt_ne (ge_call h_written (hr.mono (by decide)) tk_def (ga_cons (ge_v 1) ga_nil) (cons_len nil_len)) (ge_v 0) hr.units)) (gss_one (gs_raise .text rfl tk_def (T.x_NoText).1 (T.x_NoText).2.1 (T.x_NoText).2.2.1 (raises_own (T.x_NoText).2.2.2.1 (T.x_NoText).2.2.2.2))) gss_nil) (gss_one (gs_retDO 1))))))⟩
abbrev s__law_at : Stmt := topS 27
theorem sc__law_at : FnScope ["_law_script", "_law_k"] ["_law_script", "_law_k"] (defScope s__law_at) := ⟨rfl, rfl, rfl, by decide +kernel, rfl, by decide +kernel, by decide +kernel⟩
theorem ok__law_at {f : Addr} {fd : FuncData} (F : Fun K "_law_at" "_law_at" s__law_at f fd) (T : Txt K mg cl)  : FnOk P w K mg base (L2.CX P w) 1 f fd ["_law_script", "_law_k"] (spD K cl 2 F__law_at) := by
  refine Fun.okD (N := ["_law_script", "_law_k"]) (ps := ["_law_script", "_law_k"]) (b := m__law_at) F sc__law_at fun cdv A outer s H E hr => ?_
  exact ⟨_, (gss_cons (gs_if (gt_lt (ge_v 1) (ge_len T.b_len (ga_cons (ge_v 0) ga_nil))) (gss_one (gs_ret (ge_ix (ge_v 0) (ge_v 1)))) gss_nil) (gss_one (gs_ret ge_int)))⟩
abbrev s__law_whole : Stmt := topS 28
theorem sc__law_whole : FnScope ["_law_thing"] ["_law_thing"] (defScope s__law_whole) := ⟨rfl, rfl, rfl, by decide +kernel, rfl, by decide +kernel, by decide +kernel⟩
theorem ok__law_whole {f : Addr} {fd : FuncData} (F : Fun K "_law_whole" "_law_whole" s__law_whole f fd) (T : Txt K mg cl)  : FnOk P w K mg base (L2.CX P w) 1 f fd ["_law_thing"] (spD K cl 1 F__law_whole) := by
  refine Fun.okD (N := ["_law_thing"]) (ps := ["_law_thing"]) (b := m__law_whole) F sc__law_whole fun cdv A outer s H E hr => ?_
  exact ⟨_, (gss_one (gs_ret (ge_and (ge_inst (by decide) T.b_isinstance T.b_int (by decide +kernel) (ge_v 0)) (ge_one (ge_not (ge_inst (by decide) T.b_isinstance T.b_bool (by decide +kernel) (ge_v 0)))))))⟩
abbrev s__law_notes : Stmt := topS 29
theorem sc__law_notes : FnScope ["_law_numbers", "_law_time", "_law_pitch", "_law_scale", "_law_notes_here", "_law_number_here", "_law_more", "_law_jump"] ["_law_numbers", "_law_time", "_law_pitch", "_law_scale"] (defScope s__law_notes) := ⟨rfl, rfl, rfl, by decide +kernel, rfl, by decide +kernel, by decide +kernel⟩
theorem ok__law_notes {f : Addr} {fd : FuncData} (F : Fun K "_law_notes" "_law_notes" s__law_notes f fd) (T : Txt K mg cl)  : FnOk P w K mg base (L2.CX P w) 1 f fd ["_law_numbers", "_law_time", "_law_pitch", "_law_scale"] (spD K cl 4 F__law_notes) := by
  refine Fun.okD (N := ["_law_numbers", "_law_time", "_law_pitch", "_law_scale", "_law_notes_here", "_law_number_here", "_law_more", "_law_jump"]) (ps := ["_law_numbers", "_law_time", "_law_pitch", "_law_scale"]) (b := m__law_notes) F sc__law_notes fun cdv A outer s H E hr => ?_
  exact ⟨_, (gss_cons (gs_own 4 sc__law_notes.nd (gf_lst ga_nil)) (gss_cons (gs_for (b := lb__law_notes_1) hp_def rfl (gi_list (ge_v 0)) (gg_name 5 sc__law_notes.nd) (gss_cons (gs_set 6 sc__law_notes.nd (ge_div (ge_v 5) ge_int)) (gss_cons (gs_set 1 sc__law_notes.nd (ge_add (ge_v 1) (ge_mul (ge_ix (gf_lst (ga_cons ge_int (ga_cons ge_int (ga_cons ge_int (ga_cons ge_int (ga_cons ge_int (ga_cons ge_int ga_nil))))))).ge (ge_mod (ge_v 5) ge_int)) (ge_v 3)))) (gss_cons (gs_set 7 sc__law_notes.nd (ge_ix (gf_lst (ga_cons (ge_sub (ge_mod (ge_div (ge_v 6) ge_int) ge_int) ge_int) (ga_cons (ge_sub (ge_mod (ge_div (ge_v 6) ge_int) ge_int) ge_int) (ga_cons (ge_sub (ge_mod (ge_div (ge_v 6) ge_int) ge_int) ge_int) (ga_cons (ge_sub (ge_mod (ge_div (ge_v 6) ge_int) ge_int) ge_int) ga_nil))))).ge (ge_mod (ge_v 6) ge_int))) (gss_cons (gs_set 2 sc__law_notes.nd (ge_sub (ge_mod (ge_add (ge_add (ge_v 2) (ge_v 7)) ge_int) ge_int) ge_int)) (gss_cons (gs_app 4 (ge_tup (ga_cons (ge_v 1) (ga_cons (ge_mul (ge_add ge_int (ge_mod (ge_div (ge_v 5) ge_int) ge_int)) (ge_v 3)) (ga_cons (ge_v 2) ga_nil))))) (gss_one (gs_set 1 sc__law_notes.nd (ge_add (ge_v 1) (ge_mul (ge_add ge_int (ge_mod (ge_div (ge_v 5) ge_int) ge_int)) (ge_v 3))))))))))) (gss_frz 4 (gss_one (gs_ret (ge_v 4))))))⟩
abbrev s__law_piece : Stmt := topS 30
abbrev sc_112_23 : Scope := { kind := .function, names := [(PySem.Str.ofString ".0", .local), (PySem.Str.ofString "_law_k", .local), (PySem.Str.ofString "_law_script", .free)], isGenerator := false, isCoroutine := false, more := [] }
abbrev sc_117_11 : Scope := { kind := .function, names := [(PySem.Str.ofString ".0", .local), (PySem.Str.ofString "_law_place", .local), (PySem.Str.ofString "_law_voice", .local), (PySem.Str.ofString "int", .globalImplicit), (PySem.Str.ofString "_law_empty", .free)], isGenerator := false, isCoroutine := false, more := [] }
theorem sc__law_piece : FnScope ["_law_script", "_law_many", "_law_scale", "_law_piece_here", "_law_place", "_law_empty", "_law_numbers", "_law_base", "_law_begun", "_law_k", "_law_voice"] ["_law_script"] (defScope s__law_piece) := ⟨rfl, rfl, rfl, by decide +kernel, rfl, by decide +kernel, by decide +kernel⟩
theorem ok__law_piece {f : Addr} {fd : FuncData} (F : Fun K "_law_piece" "_law_piece" s__law_piece f fd) (T : Txt K mg cl) (h__law_at : FD P w K mg base cl "_law_at" 1 2 F__law_at) (h__law_notes : FD P w K mg base cl "_law_notes" 1 4 F__law_notes) : FnOk P w K mg base (L2.CX P w) 2 f fd ["_law_script"] (spD K cl 1 F__law_pieceT) := by
  refine Fun.okD (N := ["_law_script", "_law_many", "_law_scale", "_law_piece_here", "_law_place", "_law_empty", "_law_numbers", "_law_base", "_law_begun", "_law_k", "_law_voice"]) (ps := ["_law_script"]) (b := m__law_pieceT) F sc__law_piece fun cdv A outer s H E hr => ?_
  exact ⟨_, (gss_cons (gs_set 1 sc__law_piece.nd (ge_add ge_int (ge_mod (ge_call h__law_at (hr.mono (by decide)) tk_def (ga_cons (ge_v 0) (ga_cons ge_int ga_nil)) (cons_len (cons_len nil_len))) ge_int))) (gss_cons (gs_if (gt_eq (ge_mod (ge_div (ge_call h__law_at (hr.mono (by decide)) tk_def (ga_cons (ge_v 0) (ga_cons ge_int ga_nil)) (cons_len (cons_len nil_len))) ge_int) ge_int) ge_int hr.units) (gss_one (gs_set 1 sc__law_piece.nd (ge_add ge_int (ge_mod (ge_div (ge_call h__law_at (hr.mono (by decide)) tk_def (ga_cons (ge_v 0) (ga_cons ge_int ga_nil)) (cons_len (cons_len nil_len))) ge_int) ge_int)))) gss_nil) (gss_cons (gs_set 2 sc__law_piece.nd ge_int) (gss_cons (gs_if (gt_eq (ge_mod (ge_call h__law_at (hr.mono (by decide)) tk_def (ga_cons (ge_v 0) (ga_cons ge_int ga_nil)) (cons_len (cons_len nil_len))) ge_int) ge_int hr.units) (gss_one (gs_set 2 sc__law_piece.nd (ge_add ge_int (ge_mod (ge_div (ge_call h__law_at (hr.mono (by decide)) tk_def (ga_cons (ge_v 0) (ga_cons ge_int ga_nil)) (cons_len (cons_len nil_len))) ge_int) ge_int)))) gss_nil) (gss_cons (gs_own 3 sc__law_piece.nd (gf_lst ga_nil)) (gss_cons (gs_for (b := lb__law_pieceT_1) hp_def rfl (gi_range1 T.b_range (ga_cons (ge_v 1) ga_nil)) (gg_name 4 sc__law_piece.nd) (gss_cons (gs_setLc 6 [("_law_k", 9)] rfl sc__law_piece.nd (gi_range3 T.b_range (ga_cons (ge_add ge_int (ge_v 4)) (ga_cons (ge_min2 rfl T.b_min (ga_cons (ge_len T.b_len (ga_cons (ge_v 0) ga_nil)) (ga_cons ge_int ga_nil))) (ga_cons (ge_v 1) ga_nil)))) (blkOk_by (N := ["_law_script", "_law_many", "_law_scale", "_law_piece_here", "_law_place", "_law_empty", "_law_numbers", "_law_base", "_law_begun", "_law_k", "_law_voice"]) (sc := (defScope s__law_piece)) (by decide +kernel)) (by decide) (fun _ _ _ _ _ => (gg_name 9 sc__law_piece.nd)) (fun _ _ _ _ _ => (ge_ix (ge_v 0) (ge_v 9))) (sw_true rfl rfl rfl (by decide +kernel))) (gss_cons (gs_set 7 sc__law_piece.nd (ge_sub (ge_call h__law_at (hr.mono (by decide)) tk_def (ga_cons (ge_v 0) (ga_cons ge_int ga_nil)) (cons_len (cons_len nil_len))) (ge_mul ge_int (ge_v 4)))) (gss_cons (gs_set 8 sc__law_piece.nd (ge_mul (ge_mod (ge_add (ge_div (ge_call h__law_at (hr.mono (by decide)) tk_def (ga_cons (ge_v 0) (ga_cons ge_int ga_nil)) (cons_len (cons_len nil_len))) ge_int) (ge_mul (ge_v 4) (ge_div (ge_call h__law_at (hr.mono (by decide)) tk_def (ga_cons (ge_v 0) (ga_cons ge_int ga_nil)) (cons_len (cons_len nil_len))) ge_int))) ge_int) (ge_v 2))) (gss_one (gs_app 3 (ge_call h__law_notes (hr.mono (by decide)) tk_def (ga_cons (ge_v 6) (ga_cons (ge_v 8) (ga_cons (ge_sub (ge_mod (ge_v 7) ge_int) ge_int) (ga_cons (ge_v 2) ga_nil)))) (cons_len (cons_len (cons_len (cons_len nil_len))))))))))) (gss_frz 3 (gss_cons (gs_set 5 sc__law_piece.nd (ge_mod (ge_div (ge_call h__law_at (hr.mono (by decide)) tk_def (ga_cons (ge_v 0) (ga_cons ge_int ga_nil)) (cons_len (cons_len nil_len))) ge_int) (ge_mul ge_int (ge_v 1)))) (gss_one (gs_ret (gf_lc [("_law_place", 4), ("_law_voice", 10)] rfl sc__law_piece.nd (gi_enum T.b_enumerate (ga_cons (ge_v 3) ga_nil)) (blkOk_by (N := ["_law_script", "_law_many", "_law_scale", "_law_piece_here", "_law_place", "_law_empty", "_law_numbers", "_law_base", "_law_begun", "_law_k", "_law_voice"]) (sc := (defScope s__law_piece)) (by decide +kernel)) (by decide) (fun _ _ _ _ _ => (gg_tup 2 rfl (ggs_cons (gg_name 4 sc__law_piece.nd) (ggs_cons (gg_name 10 sc__law_piece.nd) ggs_nil)))) (fun _ _ _ _ _ => (ge_ix (gf_lst (ga_cons (ge_v 10) (ga_cons (gf_lst ga_nil).ge ga_nil))).ge (ge_intOf T.b_int (ga_cons (ge_eq (ge_v 4) (ge_v 5) hr.units) ga_nil))))).ge))))))))))⟩
abbrev s__law_number : Stmt := topS 31
abbrev sc_122_58 : Scope := { kind := .function, names := [(PySem.Str.ofString ".0", .local), (PySem.Str.ofString "_law_sign", .local)], isGenerator := false, isCoroutine := false, more := [] }
theorem sc__law_number : FnScope ["_law_word", "_law_figures", "_law_sign"] ["_law_word"] (defScope s__law_number) := ⟨rfl, rfl, rfl, by decide +kernel, rfl, by decide +kernel, by decide +kernel⟩
theorem ok__law_number {f : Addr} {fd : FuncData} (F : Fun K "_law_number" "_law_number" s__law_number f fd) (T : Txt K mg cl)  : FnOk P w K mg base (L2.CX P w) 1 f fd ["_law_word"] (spD K cl 1 F__law_numberT) := by
  refine Fun.okD (N := ["_law_word", "_law_figures", "_law_sign"]) (ps := ["_law_word"]) (b := m__law_numberT) F sc__law_number fun cdv A outer s H E hr => ?_
  exact ⟨_, (gss_cons (gs_set 1 sc__law_number.nd (ge_v 0)) (gss_cons (gs_if (gt_eq (ge_slice (ge_v 0) go_none (go_some ge_int)) ge_str hr.units) (gss_one (gs_set 1 sc__law_number.nd (ge_slice (ge_v 0) (go_some ge_int) go_none))) gss_nil) (gss_cons (gs_if (gw_or (gt_eq (ge_v 1) ge_str hr.units) (gw_or (gt_gt (ge_len T.b_len (ga_cons (ge_v 1) ga_nil)) ge_int) (gw_or1 (gt_gt (ge_len T.b_len (ga_cons (gf_lcIf [("_law_sign", 2)] rfl sc__law_number.nd (gi_str (ge_v 1)) (blkOk_by (N := ["_law_word", "_law_figures", "_law_sign"]) (sc := (defScope s__law_number)) (by decide +kernel)) (by decide) (fun _ _ _ _ _ => (gg_name 2 sc__law_number.nd)) (fun _ _ _ _ _ => (gt_notIn (ge_v 2) ge_str hr.units)) (fun _ _ _ _ _ => (ge_v 2))).ge ga_nil)) ge_int)))).t (gss_one (gs_ret ge_non)) gss_nil) (gss_cons (gs_if (gw_and (gt_eq (ge_ix (ge_v 1) ge_int) ge_str hr.units) (gw_and1 (gw_or (gt_gt (ge_len T.b_len (ga_cons (ge_v 1) ga_nil)) ge_int) (gw_or1 (gt_ne (ge_v 0) ge_str hr.units))).t)).t (gss_one (gs_ret ge_non)) gss_nil) (gss_one (gs_ret (ge_intT T.b_int (ga_cons (ge_v 0) ga_nil))))))))⟩
abbrev s__law_note : Stmt := topS 32
abbrev sc_128_19 : Scope := { kind := .function, names := [(PySem.Str.ofString ".0", .local), (PySem.Str.ofString "_law_word", .local), (PySem.Str.ofString "_law_number", .globalImplicit)], isGenerator := false, isCoroutine := false, more := [] }
theorem sc__law_note : FnScope ["_law_part", "_law_numbers", "_law_start", "_law_word"] ["_law_part"] (defScope s__law_note) := ⟨rfl, rfl, rfl, by decide +kernel, rfl, by decide +kernel, by decide +kernel⟩
theorem ok__law_note {f : Addr} {fd : FuncData} (F : Fun K "_law_note" "_law_note" s__law_note f fd) (T : Txt K mg cl) (h__law_number : FD P w K mg base cl "_law_number" 1 1 F__law_numberT) : FnOk P w K mg base (L2.CX P w) 2 f fd ["_law_part"] (spD K cl 1 F__law_noteT) := by
  refine Fun.okD (N := ["_law_part", "_law_numbers", "_law_start", "_law_word"]) (ps := ["_law_part"]) (b := m__law_noteT) F sc__law_note fun cdv A outer s H E hr => ?_
  exact ⟨_, (gss_cons (gs_setLc 1 [("_law_word", 3)] rfl sc__law_note.nd (gi_list (ge_split (ge_v 0) ge_str)) (blkOk_by (N := ["_law_part", "_law_numbers", "_law_start", "_law_word"]) (sc := (defScope s__law_note)) (by decide +kernel)) (by decide) (fun _ _ _ _ _ => (gg_name 3 sc__law_note.nd)) (fun _ _ _ _ _ => (ge_call h__law_number (hr.mono (by decide)) takes0 (ga_cons (ge_v 3) ga_nil) (cons_len nil_len))) (sw_true rfl rfl rfl (by decide +kernel))) (gss_cons (gs_if (gw_or (gt_ne (ge_len T.b_len (ga_cons (ge_v 1) ga_nil)) ge_int hr.units) (gw_or1 (gt_in ge_non (ge_v 1) hr.units))).t (gss_one (gs_ret ge_non)) gss_nil) (gss_cons (gs_set 2 sc__law_note.nd (ge_ix (ge_v 1) ge_int)) (gss_cons (gs_if (gw_or (gt_lt (ge_v 2) ge_int) (gw_or (gt_lt (ge_ix (ge_v 1) ge_int) ge_int) (gw_or1 (gt_gt (ge_add (ge_v 2) (ge_ix (ge_v 1) ge_int)) ge_int)))).t (gss_one (gs_ret ge_non)) gss_nil) (gss_cons (gs_if (gt_not (gt_chain op_le op_le dr_int ne_int dr_int ne_int (ge_neg ge_int) (ge_ix (ge_v 1) ge_int) ge_int (fun p1 p2 p3 => pt_chain op_le op_le p1 p2 p3))) (gss_one (gs_ret ge_non)) gss_nil) (gss_one (gs_ret (ge_tup (ga_cons (ge_v 2) (ga_cons (ge_ix (ge_v 1) ge_int) (ga_cons (ge_ix (ge_v 1) ge_int) ga_nil)))))))))))⟩
abbrev s__law_piece_of : Stmt := topS 33
abbrev sc_142_30 : Scope := { kind := .function, names := [(PySem.Str.ofString ".0", .local), (PySem.Str.ofString "_law_part", .local), (PySem.Str.ofString "_law_note", .globalImplicit)], isGenerator := false, isCoroutine := false, more := [] }
theorem sc__law_piece_of : FnScope ["_law_text", "_law_rows", "_law_line", "_law_notes_here", "_law_k", "_law_part"] ["_law_text"] (defScope s__law_piece_of) := ⟨rfl, rfl, rfl, by decide +kernel, rfl, by decide +kernel, by decide +kernel⟩
theorem ok__law_piece_of {f : Addr} {fd : FuncData} (F : Fun K "_law_piece_of" "_law_piece_of" s__law_piece_of f fd) (T : Txt K mg cl) (h__law_note : FD P w K mg base cl "_law_note" 2 1 F__law_noteT) : FnOk P w K mg base (L2.CX P w) 3 f fd ["_law_text"] (spD K cl 1 F__law_piece_of) := by
  refine Fun.okD (N := ["_law_text", "_law_rows", "_law_line", "_law_notes_here", "_law_k", "_law_part"]) (ps := ["_law_text"]) (b := m__law_piece_of) F sc__law_piece_of fun cdv A outer s H E hr => ?_
  exact ⟨_, (gss_cons (gs_own 1 sc__law_piece_of.nd (gf_lst ga_nil)) (gss_cons (gs_for (b := lb__law_piece_of_1) hp_def rfl (gi_list (ge_split (ge_v 0) ge_str)) (gg_name 2 sc__law_piece_of.nd) (gss_cons (gs_set 3 sc__law_piece_of.nd (gf_lst ga_nil).ge) (gss_cons (gs_if (gt_ne (ge_v 2) ge_str hr.units) (gss_one (gs_setLc 3 [("_law_part", 5)] rfl sc__law_piece_of.nd (gi_list (ge_split (ge_v 2) ge_str)) (blkOk_by (N := ["_law_text", "_law_rows", "_law_line", "_law_notes_here", "_law_k", "_law_part"]) (sc := (defScope s__law_piece_of)) (by decide +kernel)) (by decide) (fun _ _ _ _ _ => (gg_name 5 sc__law_piece_of.nd)) (fun _ _ _ _ _ => (ge_call h__law_note (hr.mono (by decide)) takes0 (ga_cons (ge_v 5) ga_nil) (cons_len nil_len))) (sw_true rfl rfl rfl (by decide +kernel)))) gss_nil) (gss_cons (gs_if (gt_in ge_non (ge_v 3) hr.units) (gss_one (gs_ret ge_non)) gss_nil) (gss_cons (gs_for (b := lb__law_piece_of_2) hp_def rfl (gi_range2 T.b_range (ga_cons ge_int (ga_cons (ge_len T.b_len (ga_cons (ge_v 3) ga_nil)) ga_nil))) (gg_name 4 sc__law_piece_of.nd) (gss_one (gs_if (gt_gt (ge_add (ge_ix (ge_ix (ge_v 3) (ge_sub (ge_v 4) ge_int)) ge_int) (ge_ix (ge_ix (ge_v 3) (ge_sub (ge_v 4) ge_int)) ge_int)) (ge_ix (ge_ix (ge_v 3) (ge_v 4)) ge_int)) (gss_one (gs_ret ge_non)) gss_nil))) (gss_one (gs_app 1 (ge_v 3)))))))) (gss_frz 1 (gss_cons (gs_if (gt_gt (ge_len T.b_len (ga_cons (ge_v 1) ga_nil)) ge_int) (gss_one (gs_ret ge_non)) gss_nil) (gss_one (gs_ret (ge_v 1)))))))⟩
abbrev s__law_shown : Stmt := topS 34
abbrev sc_155_21 : Scope := { kind := .function, names := [(PySem.Str.ofString ".0", .local), (PySem.Str.ofString "_law_note_here", .local)], isGenerator := false, isCoroutine := false, more := [] }
abbrev sc_155_31 : Scope := { kind := .function, names := [(PySem.Str.ofString ".0", .local), (PySem.Str.ofString "_law_part", .local), (PySem.Str.ofString "str", .globalImplicit)], isGenerator := false, isCoroutine := false, more := [] }
theorem sc__law_shown : FnScope ["_law_piece_here", "_law_lines", "_law_voice", "_law_words", "_law_note_here", "_law_part"] ["_law_piece_here"] (defScope s__law_shown) := ⟨rfl, rfl, rfl, by decide +kernel, rfl, by decide +kernel, by decide +kernel⟩
theorem ok__law_shown {f : Addr} {fd : FuncData} (F : Fun K "_law_shown" "_law_shown" s__law_shown f fd) (T : Txt K mg cl)  : FnOk P w K mg base (L2.CX P w) 1 f fd ["_law_piece_here"] (spD K cl 1 F__law_shown) := by
  refine Fun.okD (N := ["_law_piece_here", "_law_lines", "_law_voice", "_law_words", "_law_note_here", "_law_part"]) (ps := ["_law_piece_here"]) (b := m__law_shown) F sc__law_shown fun cdv A outer s H E hr => ?_
  exact ⟨_, (gss_cons (gs_own 1 sc__law_shown.nd (gf_lst ga_nil)) (gss_cons (gs_for (b := lb__law_shown_1) hp_def rfl (gi_list (ge_v 0)) (gg_name 2 sc__law_shown.nd) (gss_cons (gs_setLc 3 [("_law_note_here", 4)] rfl sc__law_shown.nd (gi_list (ge_v 2)) (blkOk_by (N := ["_law_piece_here", "_law_lines", "_law_voice", "_law_words", "_law_note_here", "_law_part"]) (sc := (defScope s__law_shown)) (by decide +kernel)) (by decide) (fun _ _ _ _ _ => (gg_name 4 sc__law_shown.nd)) (fun _ _ _ _ _ => (ge_join ge_str (gf_lc [("_law_part", 5)] rfl sc__law_shown.nd (gi_tup (ge_v 4)) (blkOk_by (N := ["_law_piece_here", "_law_lines", "_law_voice", "_law_words", "_law_note_here", "_law_part"]) (sc := (relS sc_155_21 (defScope s__law_shown))) (by decide +kernel)) (by decide) (fun _ _ _ _ _ => (gg_name 5 sc__law_shown.nd)) (fun _ _ _ _ _ => (ge_strI T.b_str (ga_cons (ge_v 5) ga_nil)))).ge)) (sw_true rfl rfl rfl (by decide +kernel))) (gss_one (gs_app 1 (ge_join ge_str (ge_v 3)))))) (gss_frz 1 (gss_one (gs_ret (ge_join ge_str (ge_v 1)))))))⟩
abbrev s__law_bent : Stmt := topS 35
theorem sc__law_bent : FnScope ["_law_text", "_law_way", "_law_number_here", "_law_at_here", "_law_more", "_law_some", "_law_sign", "_law_odd"] ["_law_text", "_law_way", "_law_number_here"] (defScope s__law_bent) := ⟨rfl, rfl, rfl, by decide +kernel, rfl, by decide +kernel, by decide +kernel⟩
theorem ok__law_bent {f : Addr} {fd : FuncData} (F : Fun K "_law_bent" "_law_bent" s__law_bent f fd) (T : Txt K mg cl)  : FnOk P w K mg base (L2.CX P w) 1 f fd ["_law_text", "_law_way", "_law_number_here"] (spD K cl 3 F__law_bent) := by
  refine Fun.okD (N := ["_law_text", "_law_way", "_law_number_here", "_law_at_here", "_law_more", "_law_some", "_law_sign", "_law_odd"]) (ps := ["_law_text", "_law_way", "_law_number_here"]) (b := m__law_bent) F sc__law_bent fun cdv A outer s H E hr => ?_
  exact ⟨_, (gss_cons (gs_set 3 sc__law_bent.nd (ge_mod (ge_v 2) (ge_add (ge_len T.b_len (ga_cons (ge_v 0) ga_nil)) ge_int))) (gss_cons (gs_set 4 sc__law_bent.nd (ge_div (ge_v 2) (ge_add (ge_len T.b_len (ga_cons (ge_v 0) ga_nil)) ge_int))) (gss_cons (gs_set 5 sc__law_bent.nd ge_str) (gss_cons (gs_set 5 sc__law_bent.nd (ge_add (ge_v 5) ge_str)) (gss_cons (gs_set 6 sc__law_bent.nd (ge_ix (ge_v 5) (ge_mod (ge_div (ge_v 4) ge_int) ge_int))) (gss_cons (gs_if (gt_eq (ge_mod (ge_v 4) ge_int) ge_int hr.units) (gss_one (gs_set 6 sc__law_bent.nd (ge_ix ge_str (ge_mod (ge_div (ge_v 4) ge_int) ge_int)))) gss_nil) (gss_cons (gs_set 7 sc__law_bent.nd (gf_lst (ga_cons ge_str (ga_cons ge_str (ga_cons ge_str (ga_cons ge_str (ga_cons ge_str (ga_cons ge_str (ga_cons ge_str (ga_cons ge_str ga_nil))))))))).ge) (gss_cons (gs_set 7 sc__law_bent.nd (ge_add (ge_v 7) (gf_lst (ga_cons ge_str (ga_cons ge_str (ga_cons ge_str (ga_cons ge_str (ga_cons ge_str (ga_cons ge_str ga_nil))))))).ge)) (gss_cons (gs_set 7 sc__law_bent.nd (ge_add (ge_v 7) (gf_lst (ga_cons ge_str (ga_cons ge_str (ga_cons ge_str (ga_cons ge_str (ga_cons ge_str (ga_cons ge_str (ga_cons ge_str ga_nil)))))))).ge)) (gss_cons (gs_if (gt_eq (ge_v 1) ge_int hr.units) (gss_one (gs_ret (ge_add (ge_add (ge_slice (ge_v 0) go_none (go_some (ge_v 3))) (ge_v 6)) (ge_slice (ge_v 0) (go_some (ge_v 3)) go_none)))) gss_nil) (gss_cons (gs_if (gt_eq (ge_v 1) ge_int hr.units) (gss_one (gs_ret (ge_add (ge_slice (ge_v 0) go_none (go_some (ge_v 3))) (ge_slice (ge_v 0) (go_some (ge_add (ge_v 3) ge_int)) go_none)))) gss_nil) (gss_cons (gs_if (gt_eq (ge_v 1) ge_int hr.units) (gss_one (gs_ret (ge_add (ge_add (ge_slice (ge_v 0) go_none (go_some (ge_v 3))) (ge_v 6)) (ge_slice (ge_v 0) (go_some (ge_add (ge_v 3) ge_int)) go_none)))) gss_nil) (gss_cons (gs_if (gt_eq (ge_v 1) ge_int hr.units) (gss_one (gs_ret (ge_ix (ge_v 7) (ge_mod (ge_v 2) ge_int)))) gss_nil) (gss_one (gs_ret (ge_v 0))))))))))))))))⟩
abbrev s__law_tried : Stmt := topS 36
theorem sc__law_tried : FnScope ["_law_text", "e"] ["_law_text"] (defScope s__law_tried) := ⟨rfl, rfl, rfl, by decide +kernel, rfl, by decide +kernel, by decide +kernel⟩
theorem ok__law_tried {f : Addr} {fd : FuncData} (F : Fun K "_law_tried" "_law_tried" s__law_tried f fd) (T : Txt K mg cl) (h_read : FX P w K mg base cl "read" 6 1 F_read) : FnOk P w K mg base (L2.CX P w) 7 f fd ["_law_text"] (spX K cl 1 F__law_tried) := by
  refine Fun.okP (N := ["_law_text", "e"]) (ps := ["_law_text"]) (b := m__law_tried) F sc__law_tried fun cdv A outer s H E hr => ?_
  exact ⟨_, (gss_cons (gs_tryAs (s := (sRet (mCall F_read (mCons (mV 0) mNil)))) 1 2 g__law_tried sc__law_tried.nd tk_def ⟨rfl, by decide, .inl T.g_WeaveError⟩ (by intro n o hg; cases n; (case text => exact T.m_text); all_goals (have hg' : (none : Option (Option PyData)) = some o := hg; cases hg')) (fun W' pn xe tk' hp' => (gss_one (gs_retD (gd_call h_read (hr.mono (by decide)) tk' (ga_cons (ge_v 0) ga_nil) (cons_len nil_len))))) (by intro n o a oe pn hg hz hf; cases n; (case text => (have hg' : (some (some (.str (PySem.Str.ofString "refused"))) : Option (Option PyData)) = some o := hg; injection hg' with hg'; subst hg'; exact CSs.to (css_cons (cs_if (CW.t (cw_or (ct_val (ce_isOwn T.e_text hz hf T.k_text_BadEntry T.b_isinstance T.g_BadEntry)) (cw_or (ct_val (ce_isOwn T.e_text hz hf T.k_text_BadNumber T.b_isinstance T.g_BadNumber)) (cw_or (ct_val (ce_isOwn T.e_text hz hf T.k_text_BadPiece T.b_isinstance T.g_BadPiece)) (cw_or1 (ct_val (ce_isOwn T.e_text hz hf T.k_text_BadTheme T.b_isinstance T.g_BadTheme))))))) (css_one cs_retS) css_nil) (css_cons (cs_if (CW.t (cw_or (ct_val (ce_isOwn T.e_text hz hf T.k_text_Clash T.b_isinstance T.g_Clash)) (cw_or (ct_val (ce_isOwn T.e_text hz hf T.k_text_OutOfRange T.b_isinstance T.g_OutOfRange)) (cw_or1 (ct_val (ce_isOwn T.e_text hz hf T.k_text_Uneven T.b_isinstance T.g_Uneven)))))) (css_one cs_retS) css_nil) (css_one (cs_if (CW.t (cw_and (ct_val (ce_isOwn T.e_text hz hf T.k_text_NoText T.b_isinstance T.g_NoText)) (cw_and1 (ct_val (ce_isBlt T.e_text hz hf T.k_text_ValueError T.b_isinstance T.b_ValueError (by decide +kernel)))))) (css_one cs_retS) css_nil)))) rfl)); all_goals (have hg' : (none : Option (Option PyData)) = some o := hg; cases hg'))) (gss_one (gs_retI ge_str)))⟩
abbrev s_law : Stmt := topS 37
abbrev sc_191_18 : Scope := { kind := .function, names := [(PySem.Str.ofString ".0", .local), (PySem.Str.ofString "_law_voice", .local), (PySem.Str.ofString "list", .globalImplicit)], isGenerator := false, isCoroutine := false, more := [] }
abbrev sc_209_60 : Scope := { kind := .function, names := [(PySem.Str.ofString ".0", .local), (PySem.Str.ofString "_law_part", .local), (PySem.Str.ofString "_law_whole", .globalImplicit)], isGenerator := false, isCoroutine := false, more := [] }
theorem sc_law : FnScope ["_law_script", "_law_piece_here", "_law_handed", "_law_text", "_law_number_here", "_law_changed", "_law_due", "_law_told", "_law_voice", "_law_note_here", "_law_part"] ["_law_script"] (defScope s_law) := ⟨rfl, rfl, rfl, by decide +kernel, rfl, by decide +kernel, by decide +kernel⟩
theorem ok_law {f : Addr} {fd : FuncData} (F : Fun K "law" "law" s_law f fd) (T : Txt K mg cl) (h_written : FD P w K mg base cl "written" 5 1 F_written) (h__law_at : FD P w K mg base cl "_law_at" 1 2 F__law_at) (h__law_whole : FD P w K mg base cl "_law_whole" 1 1 F__law_whole) (h__law_piece : FD P w K mg base cl "_law_piece" 2 1 F__law_pieceT) (h__law_piece_of : FD P w K mg base cl "_law_piece_of" 3 1 F__law_piece_of) (h__law_shown : FD P w K mg base cl "_law_shown" 1 1 F__law_shown) (h__law_bent : FD P w K mg base cl "_law_bent" 1 3 F__law_bent) (h__law_tried : FX P w K mg base cl "_law_tried" 7 1 F__law_tried) : FnOk P w K mg base (L2.CX P w) 8 f fd ["_law_script"] (spD K cl 1 F_law) := by
  refine Fun.okD (N := ["_law_script", "_law_piece_here", "_law_handed", "_law_text", "_law_number_here", "_law_changed", "_law_due", "_law_told", "_law_voice", "_law_note_here", "_law_part"]) (ps := ["_law_script"]) (b := m_law) F sc_law fun cdv A outer s H E hr => ?_
  exact ⟨_, (gss_cons (gs_set 1 sc_law.nd (ge_call h__law_piece (hr.mono (by decide)) tk_def (ga_cons (ge_v 0) ga_nil) (cons_len nil_len))) (gss_cons (gs_setLc 2 [("_law_voice", 8)] rfl sc_law.nd (gi_list (ge_v 1)) (blkOk_by (N := ["_law_script", "_law_piece_here", "_law_handed", "_law_text", "_law_number_here", "_law_changed", "_law_due", "_law_told", "_law_voice", "_law_note_here", "_law_part"]) (sc := (defScope s_law)) (by decide +kernel)) (by decide) (fun _ _ _ _ _ => (gg_name 8 sc_law.nd)) (fun _ _ _ _ _ => (gf_list T.b_list (ga_cons (ge_v 8) ga_nil)).ge) (sw_true rfl rfl rfl (by decide +kernel))) (gss_cons (gs_set 3 sc_law.nd (ge_call h_written (hr.mono (by decide)) tk_def (ga_cons (ge_v 2) ga_nil) (cons_len nil_len))) (gss_cons (gs_if (gw_or (gt_not (gt_val (ge_inst (by decide) T.b_isinstance T.b_str (by decide +kernel) (ge_v 3)))) (gw_or (gt_ne (ge_v 3) (ge_call h__law_shown (hr.mono (by decide)) tk_def (ga_cons (ge_v 1) ga_nil) (cons_len nil_len)) hr.units) (gw_or1 (gt_ne (ge_v 2) (ge_v 1) hr.units)))).t (gss_one (gs_ret ge_bl)) gss_nil) (gss_cons (gs_set 4 sc_law.nd (ge_mod (ge_add (ge_add (ge_mul (ge_call h__law_at (hr.mono (by decide)) tk_def (ga_cons (ge_v 0) (ga_cons ge_int ga_nil)) (cons_len (cons_len nil_len))) ge_int) (ge_mul (ge_call h__law_at (hr.mono (by decide)) tk_def (ga_cons (ge_v 0) (ga_cons ge_int ga_nil)) (cons_len (cons_len nil_len))) ge_int)) (ge_call h__law_at (hr.mono (by decide)) tk_def (ga_cons (ge_v 0) (ga_cons ge_int ga_nil)) (cons_len (cons_len nil_len)))) ge_int)) (gss_cons (gs_if (gt_eq (ge_mod (ge_v 4) ge_int) ge_int hr.units) (gss_one (gs_ret (ge_eq (gd_call h__law_tried (hr.mono (by decide)) tk_def (ga_cons (ge_ix (gf_lst (ga_cons ge_non (ga_cons ge_int (ga_cons ge_bl (ga_cons (gf_lst (ga_cons ge_str ga_nil)).ge (ga_cons (ge_tup (ga_cons ge_str ga_nil)) ga_nil)))))).ge (ge_mod (ge_div (ge_v 4) ge_int) ge_int)) ga_nil) (cons_len nil_len)).ge ge_str hr.units))) gss_nil) (gss_cons (gs_set 5 sc_law.nd (ge_call h__law_bent (hr.mono (by decide)) tk_def (ga_cons (ge_v 3) (ga_cons (ge_ix (gf_lst (ga_cons ge_int (ga_cons ge_int (ga_cons ge_int (ga_cons ge_int (ga_cons ge_int (ga_cons ge_int (ga_cons ge_int (ga_cons ge_int (ga_cons ge_int ga_nil)))))))))).ge (ge_mod (ge_v 4) ge_int)) (ga_cons (ge_div (ge_v 4) ge_int) ga_nil))) (cons_len (cons_len (cons_len nil_len))))) (gss_cons (gs_set 6 sc_law.nd (ge_call h__law_piece_of (hr.mono (by decide)) tk_def (ga_cons (ge_v 5) ga_nil) (cons_len nil_len))) (gss_cons (gs_setD 7 sc_law.nd (gd_call h__law_tried (hr.mono (by decide)) tk_def (ga_cons (ge_v 5) ga_nil) (cons_len nil_len))) (gss_cons (gs_if (gt_is (ge_v 6) ge_non) (gss_one (gs_ret (ge_frz 7 (ge_and (ge_inst (by decide) T.b_isinstance T.b_str (by decide +kernel) (ge_v 7)) (ge_one (ge_eq (ge_v 7) ge_str hr.units)))))) gss_nil) (gss_cons (gs_if (gt_frz 7 (gw_or (gt_not (gt_val (ge_inst (by decide) T.b_isinstance T.b_list (by decide +kernel) (ge_v 7)))) (gw_or1 (gt_ne (ge_v 7) (ge_v 6) hr.units))).t) (gss_one (gs_ret ge_bl)) gss_nil) (gss_cons (gs_hold (gs_for (b := lb_law_1) hp_def rfl (gi_list (ge_v 7)) (gg_name 8 sc_law.nd) (gss_cons (gs_if (gt_not (gt_val (ge_inst (by decide) T.b_isinstance T.b_list (by decide +kernel) (ge_v 8)))) (gss_one (gs_ret ge_bl)) gss_nil) (gss_one (gs_for (b := lb_law_2) hp_def rfl (gi_list (ge_v 8)) (gg_name 9 sc_law.nd) (gss_one (gs_if (gw_or (gt_not (gt_val (ge_inst (by decide) T.b_isinstance T.b_tuple (by decide +kernel) (ge_v 9)))) (gw_or1 (gt_gt (ge_len T.b_len (ga_cons (gf_lcIf [("_law_part", 10)] rfl sc_law.nd (gi_tup (ge_v 9)) (blkOk_by (N := ["_law_script", "_law_piece_here", "_law_handed", "_law_text", "_law_number_here", "_law_changed", "_law_due", "_law_told", "_law_voice", "_law_note_here", "_law_part"]) (sc := (defScope s_law)) (by decide +kernel)) (by decide) (fun _ _ _ _ _ => (gg_name 10 sc_law.nd)) (fun _ _ _ _ _ => (gt_not (gt_val (ge_call h__law_whole (hr.mono (by decide)) takes0 (ga_cons (ge_v 10) ga_nil) (cons_len nil_len))))) (fun _ _ _ _ _ => (ge_v 10))).ge ga_nil)) ge_int))).t (gss_one (gs_ret ge_bl)) gss_nil))))))) (gss_cons (gs_appR 7 ge_int (ge_tup (ga_cons ge_int (ga_cons ge_int (ga_cons ge_int ga_nil))))) (gss_one (gs_ret (ge_eq (gd_call h__law_tried (hr.mono (by decide)) tk_def (ga_cons (ge_v 5) ga_nil) (cons_len nil_len)).ge (ge_v 6) hr.units))))))))))))))))⟩
end
theorem all_mk {l : PySem.W.OpenLaw} {w : World} {K : PySem.W.Frag} {h : Heap} {mg : Str → Option Value} {fa : Addr} (X : K.In h) (G : h.Ns mainGlobals mg) (hfa : mg "law" = some (.ref fa))
    {f14 : Addr} {od14 an14 : Option Addr} {sl14 : Array (Option Value)} {oc14 kV14 dc14 pm14 cd14 ct14 : Value}
    {f15 : Addr} {od15 an15 : Option Addr} {sl15 : Array (Option Value)} {oc15 kV15 dc15 pm15 cd15 ct15 : Value}
    {f16 : Addr} {od16 an16 : Option Addr} {sl16 : Array (Option Value)} {oc16 kV16 dc16 pm16 cd16 ct16 : Value}
    {f17 : Addr} {od17 an17 : Option Addr} {sl17 : Array (Option Value)} {oc17 kV17 dc17 pm17 cd17 ct17 : Value}
    {f18 : Addr} {od18 an18 : Option Addr} {sl18 : Array (Option Value)} {oc18 kV18 dc18 pm18 cd18 ct18 : Value}
    {f22 : Addr} {od22 an22 : Option Addr} {sl22 : Array (Option Value)} {oc22 kV22 dc22 pm22 cd22 ct22 : Value}
    {f23 : Addr} {od23 an23 : Option Addr} {sl23 : Array (Option Value)} {oc23 kV23 dc23 pm23 cd23 ct23 : Value}
    {f24 : Addr} {od24 an24 : Option Addr} {sl24 : Array (Option Value)} {oc24 kV24 dc24 pm24 cd24 ct24 : Value}
    {f25 : Addr} {od25 an25 : Option Addr} {sl25 : Array (Option Value)} {oc25 kV25 dc25 pm25 cd25 ct25 : Value}
    {f27 : Addr} {od27 an27 : Option Addr} {sl27 : Array (Option Value)} {oc27 kV27 dc27 pm27 cd27 ct27 : Value}
    {f28 : Addr} {od28 an28 : Option Addr} {sl28 : Array (Option Value)} {oc28 kV28 dc28 pm28 cd28 ct28 : Value}
    {f29 : Addr} {od29 an29 : Option Addr} {sl29 : Array (Option Value)} {oc29 kV29 dc29 pm29 cd29 ct29 : Value}
    {f30 : Addr} {od30 an30 : Option Addr} {sl30 : Array (Option Value)} {oc30 kV30 dc30 pm30 cd30 ct30 : Value}
    {f31 : Addr} {od31 an31 : Option Addr} {sl31 : Array (Option Value)} {oc31 kV31 dc31 pm31 cd31 ct31 : Value}
    {f32 : Addr} {od32 an32 : Option Addr} {sl32 : Array (Option Value)} {oc32 kV32 dc32 pm32 cd32 ct32 : Value}
    {f33 : Addr} {od33 an33 : Option Addr} {sl33 : Array (Option Value)} {oc33 kV33 dc33 pm33 cd33 ct33 : Value}
    {f34 : Addr} {od34 an34 : Option Addr} {sl34 : Array (Option Value)} {oc34 kV34 dc34 pm34 cd34 ct34 : Value}
    {f35 : Addr} {od35 an35 : Option Addr} {sl35 : Array (Option Value)} {oc35 kV35 dc35 pm35 cd35 ct35 : Value}
    {f36 : Addr} {od36 an36 : Option Addr} {sl36 : Array (Option Value)} {oc36 kV36 dc36 pm36 cd36 ct36 : Value}
    {f37 : Addr} {od37 an37 : Option Addr} {sl37 : Array (Option Value)} {oc37 kV37 dc37 pm37 cd37 ct37 : Value}
    {tFIGURES : Tok}
    {tLAST : Tok}
    {tMOST_FIGURES : Tok}
    {tMOST_PITCH : Tok}
    {tMOST_VOICES : Tok}
    {CBadEntry : Addr}
    {CBadNumber : Addr}
    {CBadPiece : Addr}
    {CBadTheme : Addr}
    {CClash : Addr}
    {CNoText : Addr}
    {COutOfRange : Addr}
    {CUneven : Addr}
    {CWeaveError : Addr}
    (a14 : PySem.W.nsIn K mainGlobals "is_whole" = some (some (.ref f14)))
    (l14 : K.lookup f14 = some ⟨oc14, od14, .func (PySem.W.fnOf "is_whole" "is_whole" (defArgs s_is_whole) (defBody s_is_whole) (defScope s_is_whole) .none kV14 dc14 pm14 an14 cd14 ct14), sl14⟩)
    (c14 : PySem.W.codeIn K cd14 "is_whole" = true)
    (k14 : PySem.W.keepIn K (.ref f14) = true)
    (a15 : PySem.W.nsIn K mainGlobals "is_note" = some (some (.ref f15)))
    (l15 : K.lookup f15 = some ⟨oc15, od15, .func (PySem.W.fnOf "is_note" "is_note" (defArgs s_is_note) (defBody s_is_note) (defScope s_is_note) .none kV15 dc15 pm15 an15 cd15 ct15), sl15⟩)
    (c15 : PySem.W.codeIn K cd15 "is_note" = true)
    (k15 : PySem.W.keepIn K (.ref f15) = true)
    (a16 : PySem.W.nsIn K mainGlobals "end_of" = some (some (.ref f16)))
    (l16 : K.lookup f16 = some ⟨oc16, od16, .func (PySem.W.fnOf "end_of" "end_of" (defArgs s_end_of) (defBody s_end_of) (defScope s_end_of) .none kV16 dc16 pm16 an16 cd16 ct16), sl16⟩)
    (c16 : PySem.W.codeIn K cd16 "end_of" = true)
    (k16 : PySem.W.keepIn K (.ref f16) = true)
    (a17 : PySem.W.nsIn K mainGlobals "is_voice" = some (some (.ref f17)))
    (l17 : K.lookup f17 = some ⟨oc17, od17, .func (PySem.W.fnOf "is_voice" "is_voice" (defArgs s_is_voice) (defBody s_is_voice) (defScope s_is_voice) .none kV17 dc17 pm17 an17 cd17 ct17), sl17⟩)
    (c17 : PySem.W.codeIn K cd17 "is_voice" = true)
    (k17 : PySem.W.keepIn K (.ref f17) = true)
    (a18 : PySem.W.nsIn K mainGlobals "need_piece" = some (some (.ref f18)))
    (l18 : K.lookup f18 = some ⟨oc18, od18, .func (PySem.W.fnOf "need_piece" "need_piece" (defArgs s_need_piece) (defBody s_need_piece) (defScope s_need_piece) .none kV18 dc18 pm18 an18 cd18 ct18), sl18⟩)
    (c18 : PySem.W.codeIn K cd18 "need_piece" = true)
    (k18 : PySem.W.keepIn K (.ref f18) = true)
    (a22 : PySem.W.nsIn K mainGlobals "written" = some (some (.ref f22)))
    (l22 : K.lookup f22 = some ⟨oc22, od22, .func (PySem.W.fnOf "written" "written" (defArgs s_written) (defBody s_written) (defScope s_written) .none kV22 dc22 pm22 an22 cd22 ct22), sl22⟩)
    (c22 : PySem.W.codeIn K cd22 "written" = true)
    (k22 : PySem.W.keepIn K (.ref f22) = true)
    (a23 : PySem.W.nsIn K mainGlobals "number_of" = some (some (.ref f23)))
    (l23 : K.lookup f23 = some ⟨oc23, od23, .func (PySem.W.fnOf "number_of" "number_of" (defArgs s_number_of) (defBody s_number_of) (defScope s_number_of) .none kV23 dc23 pm23 an23 cd23 ct23), sl23⟩)
    (c23 : PySem.W.codeIn K cd23 "number_of" = true)
    (k23 : PySem.W.keepIn K (.ref f23) = true)
    (a24 : PySem.W.nsIn K mainGlobals "voice_of" = some (some (.ref f24)))
    (l24 : K.lookup f24 = some ⟨oc24, od24, .func (PySem.W.fnOf "voice_of" "voice_of" (defArgs s_voice_of) (defBody s_voice_of) (defScope s_voice_of) .none kV24 dc24 pm24 an24 cd24 ct24), sl24⟩)
    (c24 : PySem.W.codeIn K cd24 "voice_of" = true)
    (k24 : PySem.W.keepIn K (.ref f24) = true)
    (a25 : PySem.W.nsIn K mainGlobals "read" = some (some (.ref f25)))
    (l25 : K.lookup f25 = some ⟨oc25, od25, .func (PySem.W.fnOf "read" "read" (defArgs s_read) (defBody s_read) (defScope s_read) .none kV25 dc25 pm25 an25 cd25 ct25), sl25⟩)
    (c25 : PySem.W.codeIn K cd25 "read" = true)
    (k25 : PySem.W.keepIn K (.ref f25) = true)
    (a27 : PySem.W.nsIn K mainGlobals "_law_at" = some (some (.ref f27)))
    (l27 : K.lookup f27 = some ⟨oc27, od27, .func (PySem.W.fnOf "_law_at" "_law_at" (defArgs s__law_at) (defBody s__law_at) (defScope s__law_at) .none kV27 dc27 pm27 an27 cd27 ct27), sl27⟩)
    (c27 : PySem.W.codeIn K cd27 "_law_at" = true)
    (k27 : PySem.W.keepIn K (.ref f27) = true)
    (a28 : PySem.W.nsIn K mainGlobals "_law_whole" = some (some (.ref f28)))
    (l28 : K.lookup f28 = some ⟨oc28, od28, .func (PySem.W.fnOf "_law_whole" "_law_whole" (defArgs s__law_whole) (defBody s__law_whole) (defScope s__law_whole) .none kV28 dc28 pm28 an28 cd28 ct28), sl28⟩)
    (c28 : PySem.W.codeIn K cd28 "_law_whole" = true)
    (k28 : PySem.W.keepIn K (.ref f28) = true)
    (a29 : PySem.W.nsIn K mainGlobals "_law_notes" = some (some (.ref f29)))
    (l29 : K.lookup f29 = some ⟨oc29, od29, .func (PySem.W.fnOf "_law_notes" "_law_notes" (defArgs s__law_notes) (defBody s__law_notes) (defScope s__law_notes) .none kV29 dc29 pm29 an29 cd29 ct29), sl29⟩)
    (c29 : PySem.W.codeIn K cd29 "_law_notes" = true)
    (k29 : PySem.W.keepIn K (.ref f29) = true)
    (a30 : PySem.W.nsIn K mainGlobals "_law_piece" = some (some (.ref f30)))
    (l30 : K.lookup f30 = some ⟨oc30, od30, .func (PySem.W.fnOf "_law_piece" "_law_piece" (defArgs s__law_piece) (defBody s__law_piece) (defScope s__law_piece) .none kV30 dc30 pm30 an30 cd30 ct30), sl30⟩)
    (c30 : PySem.W.codeIn K cd30 "_law_piece" = true)
    (k30 : PySem.W.keepIn K (.ref f30) = true)
    (a31 : PySem.W.nsIn K mainGlobals "_law_number" = some (some (.ref f31)))
    (l31 : K.lookup f31 = some ⟨oc31, od31, .func (PySem.W.fnOf "_law_number" "_law_number" (defArgs s__law_number) (defBody s__law_number) (defScope s__law_number) .none kV31 dc31 pm31 an31 cd31 ct31), sl31⟩)
    (c31 : PySem.W.codeIn K cd31 "_law_number" = true)
    (k31 : PySem.W.keepIn K (.ref f31) = true)
    (a32 : PySem.W.nsIn K mainGlobals "_law_note" = some (some (.ref f32)))
    (l32 : K.lookup f32 = some ⟨oc32, od32, .func (PySem.W.fnOf "_law_note" "_law_note" (defArgs s__law_note) (defBody s__law_note) (defScope s__law_note) .none kV32 dc32 pm32 an32 cd32 ct32), sl32⟩)
    (c32 : PySem.W.codeIn K cd32 "_law_note" = true)
    (k32 : PySem.W.keepIn K (.ref f32) = true)
    (a33 : PySem.W.nsIn K mainGlobals "_law_piece_of" = some (some (.ref f33)))
    (l33 : K.lookup f33 = some ⟨oc33, od33, .func (PySem.W.fnOf "_law_piece_of" "_law_piece_of" (defArgs s__law_piece_of) (defBody s__law_piece_of) (defScope s__law_piece_of) .none kV33 dc33 pm33 an33 cd33 ct33), sl33⟩)
    (c33 : PySem.W.codeIn K cd33 "_law_piece_of" = true)
    (k33 : PySem.W.keepIn K (.ref f33) = true)
    (a34 : PySem.W.nsIn K mainGlobals "_law_shown" = some (some (.ref f34)))
    (l34 : K.lookup f34 = some ⟨oc34, od34, .func (PySem.W.fnOf "_law_shown" "_law_shown" (defArgs s__law_shown) (defBody s__law_shown) (defScope s__law_shown) .none kV34 dc34 pm34 an34 cd34 ct34), sl34⟩)
    (c34 : PySem.W.codeIn K cd34 "_law_shown" = true)
    (k34 : PySem.W.keepIn K (.ref f34) = true)
    (a35 : PySem.W.nsIn K mainGlobals "_law_bent" = some (some (.ref f35)))
    (l35 : K.lookup f35 = some ⟨oc35, od35, .func (PySem.W.fnOf "_law_bent" "_law_bent" (defArgs s__law_bent) (defBody s__law_bent) (defScope s__law_bent) .none kV35 dc35 pm35 an35 cd35 ct35), sl35⟩)
    (c35 : PySem.W.codeIn K cd35 "_law_bent" = true)
    (k35 : PySem.W.keepIn K (.ref f35) = true)
    (a36 : PySem.W.nsIn K mainGlobals "_law_tried" = some (some (.ref f36)))
    (l36 : K.lookup f36 = some ⟨oc36, od36, .func (PySem.W.fnOf "_law_tried" "_law_tried" (defArgs s__law_tried) (defBody s__law_tried) (defScope s__law_tried) .none kV36 dc36 pm36 an36 cd36 ct36), sl36⟩)
    (c36 : PySem.W.codeIn K cd36 "_law_tried" = true)
    (k36 : PySem.W.keepIn K (.ref f36) = true)
    (a37 : PySem.W.nsIn K mainGlobals "law" = some (some (.ref f37)))
    (l37 : K.lookup f37 = some ⟨oc37, od37, .func (PySem.W.fnOf "law" "law" (defArgs s_law) (defBody s_law) (defScope s_law) .none kV37 dc37 pm37 an37 cd37 ct37), sl37⟩)
    (c37 : PySem.W.codeIn K cd37 "law" = true)
    (k37 : PySem.W.keepIn K (.ref f37) = true)
    (z_ValueError : PySem.W.nsIn K mainGlobals "ValueError" = some none)
    (z_bool : PySem.W.nsIn K mainGlobals "bool" = some none)
    (z_enumerate : PySem.W.nsIn K mainGlobals "enumerate" = some none)
    (z_int : PySem.W.nsIn K mainGlobals "int" = some none)
    (z_isinstance : PySem.W.nsIn K mainGlobals "isinstance" = some none)
    (z_len : PySem.W.nsIn K mainGlobals "len" = some none)
    (z_list : PySem.W.nsIn K mainGlobals "list" = some none)
    (z_min : PySem.W.nsIn K mainGlobals "min" = some none)
    (z_range : PySem.W.nsIn K mainGlobals "range" = some none)
    (z_str : PySem.W.nsIn K mainGlobals "str" = some none)
    (z_tuple : PySem.W.nsIn K mainGlobals "tuple" = some none)
    (v_FIGURES : PySem.W.nsIn K mainGlobals "FIGURES" = some (some (.str (PySem.Str.ofString "0123456789") tFIGURES)))
    (v_LAST : PySem.W.nsIn K mainGlobals "LAST" = some (some (.int 100000 tLAST)))
    (v_MOST_FIGURES : PySem.W.nsIn K mainGlobals "MOST_FIGURES" = some (some (.int 6 tMOST_FIGURES)))
    (v_MOST_PITCH : PySem.W.nsIn K mainGlobals "MOST_PITCH" = some (some (.int 200 tMOST_PITCH)))
    (v_MOST_VOICES : PySem.W.nsIn K mainGlobals "MOST_VOICES" = some (some (.int 6 tMOST_VOICES)))
    (g_BadEntry : PySem.W.nsIn K mainGlobals "BadEntry" = some (some (.ref CBadEntry)))
    (g_BadNumber : PySem.W.nsIn K mainGlobals "BadNumber" = some (some (.ref CBadNumber)))
    (g_BadPiece : PySem.W.nsIn K mainGlobals "BadPiece" = some (some (.ref CBadPiece)))
    (g_BadTheme : PySem.W.nsIn K mainGlobals "BadTheme" = some (some (.ref CBadTheme)))
    (g_Clash : PySem.W.nsIn K mainGlobals "Clash" = some (some (.ref CClash)))
    (g_NoText : PySem.W.nsIn K mainGlobals "NoText" = some (some (.ref CNoText)))
    (g_OutOfRange : PySem.W.nsIn K mainGlobals "OutOfRange" = some (some (.ref COutOfRange)))
    (g_Uneven : PySem.W.nsIn K mainGlobals "Uneven" = some (some (.ref CUneven)))
    (g_WeaveError : PySem.W.nsIn K mainGlobals "WeaveError" = some (some (.ref CWeaveError)))
    (e_BadPiece : PySem.W.excIn K CBadPiece [.type "ValueError", .type "Exception", .type "BaseException", .type "object"] "ValueError.__new__" = true)
    (p_BadPiece : PySem.W.keepIn K (.ref CBadPiece) = true)
    (s_xBadPiece : PySem.W.subIn K (.ref CBadPiece) (.type "BaseException") = some true)
    (y_BadPiece : PySem.W.typeIn K (.ref CBadPiece) = some (.type "type"))
    (e_NoText : PySem.W.excIn K CNoText [.type "ValueError", .type "Exception", .type "BaseException", .type "object"] "ValueError.__new__" = true)
    (p_NoText : PySem.W.keepIn K (.ref CNoText) = true)
    (s_xNoText : PySem.W.subIn K (.ref CNoText) (.type "BaseException") = some true)
    (y_NoText : PySem.W.typeIn K (.ref CNoText) = some (.type "type"))
    (q1_text : PySem.W.findIn K (.ref CNoText) "__getattribute__" = some (some (.builtin "BaseException.__getattribute__")))
    (q2_text : PySem.W.findIn K (.ref CNoText) "__getattr__" = some none)
    (q3_text : PySem.W.subIn K (.ref CNoText) (.type "BaseException") = some true)
    (q4_text : PySem.W.hasDictIn K CNoText = true)
    (q5_text : PySem.W.findIn K (.ref CNoText) "__class__" = some (some (.builtin "object.__class__")))
    (q6_text : PySem.W.specialIn K (.builtin "object.__class__") "__get__" = some (some (.builtin "getset_descriptor.__get__")))
    (q7_text : PySem.W.takesIn K (.builtin "object.__class__") = some true)
    (q8_text : PySem.W.mroIn K CNoText (.type "object") = some true)
    (d_BadEntry : PySem.W.hasDictIn K CBadEntry = true)
    (t_BadEntry : PySem.W.typeIn K (.ref CBadEntry) = some (.type "type"))
    (v_BadEntry : PySem.W.subIn K (.ref CBadEntry) (.type "BaseException") = some true)
    (d_BadNumber : PySem.W.hasDictIn K CBadNumber = true)
    (t_BadNumber : PySem.W.typeIn K (.ref CBadNumber) = some (.type "type"))
    (v_BadNumber : PySem.W.subIn K (.ref CBadNumber) (.type "BaseException") = some true)
    (d_BadPiece : PySem.W.hasDictIn K CBadPiece = true)
    (t_BadPiece : PySem.W.typeIn K (.ref CBadPiece) = some (.type "type"))
    (v_BadPiece : PySem.W.subIn K (.ref CBadPiece) (.type "BaseException") = some true)
    (d_BadTheme : PySem.W.hasDictIn K CBadTheme = true)
    (t_BadTheme : PySem.W.typeIn K (.ref CBadTheme) = some (.type "type"))
    (v_BadTheme : PySem.W.subIn K (.ref CBadTheme) (.type "BaseException") = some true)
    (d_Clash : PySem.W.hasDictIn K CClash = true)
    (t_Clash : PySem.W.typeIn K (.ref CClash) = some (.type "type"))
    (v_Clash : PySem.W.subIn K (.ref CClash) (.type "BaseException") = some true)
    (d_NoText : PySem.W.hasDictIn K CNoText = true)
    (t_NoText : PySem.W.typeIn K (.ref CNoText) = some (.type "type"))
    (v_NoText : PySem.W.subIn K (.ref CNoText) (.type "BaseException") = some true)
    (d_OutOfRange : PySem.W.hasDictIn K COutOfRange = true)
    (t_OutOfRange : PySem.W.typeIn K (.ref COutOfRange) = some (.type "type"))
    (v_OutOfRange : PySem.W.subIn K (.ref COutOfRange) (.type "BaseException") = some true)
    (d_Uneven : PySem.W.hasDictIn K CUneven = true)
    (t_Uneven : PySem.W.typeIn K (.ref CUneven) = some (.type "type"))
    (v_Uneven : PySem.W.subIn K (.ref CUneven) (.type "BaseException") = some true)
    (d_WeaveError : PySem.W.hasDictIn K CWeaveError = true)
    (t_WeaveError : PySem.W.typeIn K (.ref CWeaveError) = some (.type "type"))
    (v_WeaveError : PySem.W.subIn K (.ref CWeaveError) (.type "BaseException") = some true)
    (u_piece_BadPiece : PySem.W.subIn K (.ref CBadPiece) (.ref CBadPiece) = some true)
    (u_text_BadEntry : PySem.W.subIn K (.ref CNoText) (.ref CBadEntry) = some false)
    (u_text_BadNumber : PySem.W.subIn K (.ref CNoText) (.ref CBadNumber) = some false)
    (u_text_BadPiece : PySem.W.subIn K (.ref CNoText) (.ref CBadPiece) = some false)
    (u_text_BadTheme : PySem.W.subIn K (.ref CNoText) (.ref CBadTheme) = some false)
    (u_text_Clash : PySem.W.subIn K (.ref CNoText) (.ref CClash) = some false)
    (u_text_NoText : PySem.W.subIn K (.ref CNoText) (.ref CNoText) = some true)
    (u_text_OutOfRange : PySem.W.subIn K (.ref CNoText) (.ref COutOfRange) = some false)
    (u_text_Uneven : PySem.W.subIn K (.ref CNoText) (.ref CUneven) = some false)
    (u_text_ValueError : PySem.W.subIn K (.ref CNoText) (.type "ValueError") = some true)
    (u_text_WeaveError : PySem.W.subIn K (.ref CNoText) (.ref CWeaveError) = some true)
    (w_text_BadEntry : CNoText ≠ CBadEntry)
    (w_text_BadNumber : CNoText ≠ CBadNumber)
    (w_text_BadPiece : CNoText ≠ CBadPiece)
    (w_text_BadTheme : CNoText ≠ CBadTheme)
    (w_text_Clash : CNoText ≠ CClash)
    (w_text_OutOfRange : CNoText ≠ COutOfRange)
    (w_text_Uneven : CNoText ≠ CUneven)
    : ∃ fd : FuncData, (∀ (s : Shared) (v : Value), BindsTo s fd ⟨[v], []⟩ [("_law_script", v)]) ∧ ∀ base : Heap, K.In base → base.Ns mainGlobals mg → FnOk l.prog w K mg base (L2.CX l.prog w) 8 fa fd ["_law_script"] (spT K F_law) := by
  have e := hfa.symm.trans (PySem.W.mg_of X G a37)
  cases e
  let cl : Ex → Addr := fun x => match x with | .entry => CBadEntry | .number => CBadNumber | .piece => CBadPiece | .theme => CBadTheme | .clash => CClash | .text => CNoText | .range => COutOfRange | .uneven => CUneven | .weave => CWeaveError
  have T : Txt K mg cl := { b_ValueError := PySem.W.mg_none_of X G z_ValueError, b_bool := PySem.W.mg_none_of X G z_bool, b_enumerate := PySem.W.mg_none_of X G z_enumerate, b_int := PySem.W.mg_none_of X G z_int, b_isinstance := PySem.W.mg_none_of X G z_isinstance, b_len := PySem.W.mg_none_of X G z_len, b_list := PySem.W.mg_none_of X G z_list, b_min := PySem.W.mg_none_of X G z_min, b_range := PySem.W.mg_none_of X G z_range, b_str := PySem.W.mg_none_of X G z_str, b_tuple := PySem.W.mg_none_of X G z_tuple, c_FIGURES := con_str (PySem.W.mg_of X G v_FIGURES), c_LAST := con_int (PySem.W.mg_of X G v_LAST), c_MOST_FIGURES := con_int (PySem.W.mg_of X G v_MOST_FIGURES), c_MOST_PITCH := con_int (PySem.W.mg_of X G v_MOST_PITCH), c_MOST_VOICES := con_int (PySem.W.mg_of X G v_MOST_VOICES), g_BadEntry := PySem.W.mg_of X G g_BadEntry, g_BadNumber := PySem.W.mg_of X G g_BadNumber, g_BadPiece := PySem.W.mg_of X G g_BadPiece, g_BadTheme := PySem.W.mg_of X G g_BadTheme, g_Clash := PySem.W.mg_of X G g_Clash, g_NoText := PySem.W.mg_of X G g_NoText, g_OutOfRange := PySem.W.mg_of X G g_OutOfRange, g_Uneven := PySem.W.mg_of X G g_Uneven, g_WeaveError := PySem.W.mg_of X G g_WeaveError, x_BadPiece := ⟨e_BadPiece, PySem.W.mg_of X G g_BadPiece, p_BadPiece, s_xBadPiece, y_BadPiece⟩, x_NoText := ⟨e_NoText, PySem.W.mg_of X G g_NoText, p_NoText, s_xNoText, y_NoText⟩, e_text := ⟨q1_text, q2_text, q3_text, q4_text, q5_text, q6_text, q7_text, q8_text⟩, k_text_BadEntry := kit_own d_BadEntry t_BadEntry u_text_BadEntry (.inr w_text_BadEntry), k_text_BadNumber := kit_own d_BadNumber t_BadNumber u_text_BadNumber (.inr w_text_BadNumber), k_text_BadPiece := kit_own d_BadPiece t_BadPiece u_text_BadPiece (.inr w_text_BadPiece), k_text_BadTheme := kit_own d_BadTheme t_BadTheme u_text_BadTheme (.inr w_text_BadTheme), k_text_Clash := kit_own d_Clash t_Clash u_text_Clash (.inr w_text_Clash), k_text_NoText := kit_own d_NoText t_NoText u_text_NoText (.inl rfl), k_text_OutOfRange := kit_own d_OutOfRange t_OutOfRange u_text_OutOfRange (.inr w_text_OutOfRange), k_text_Uneven := kit_own d_Uneven t_Uneven u_text_Uneven (.inr w_text_Uneven), k_text_ValueError := kit_blt (by decide +kernel) u_text_ValueError, m_piece := PySem.W.exm_ref v_BadPiece d_BadPiece t_BadPiece u_piece_BadPiece, m_text := PySem.W.exm_ref v_WeaveError d_WeaveError t_WeaveError u_text_WeaveError }
  have F14 := fun_mk (st := s_is_whole) l14 c14 k14
  have b14 := F14.binds (ps := ["thing"]) fun _ _ _ _ _ _ us hl => match us, hl with | [_], _ => rfl
  have F15 := fun_mk (st := s_is_note) l15 c15 k15
  have b15 := F15.binds (ps := ["thing"]) fun _ _ _ _ _ _ us hl => match us, hl with | [_], _ => rfl
  have F16 := fun_mk (st := s_end_of) l16 c16 k16
  have b16 := F16.binds (ps := ["note"]) fun _ _ _ _ _ _ us hl => match us, hl with | [_], _ => rfl
  have F17 := fun_mk (st := s_is_voice) l17 c17 k17
  have b17 := F17.binds (ps := ["thing"]) fun _ _ _ _ _ _ us hl => match us, hl with | [_], _ => rfl
  have F18 := fun_mk (st := s_need_piece) l18 c18 k18
  have b18 := F18.binds (ps := ["piece"]) fun _ _ _ _ _ _ us hl => match us, hl with | [_], _ => rfl
  have F22 := fun_mk (st := s_written) l22 c22 k22
  have b22 := F22.binds (ps := ["piece"]) fun _ _ _ _ _ _ us hl => match us, hl with | [_], _ => rfl
  have F23 := fun_mk (st := s_number_of) l23 c23 k23
  have b23 := F23.binds (ps := ["word"]) fun _ _ _ _ _ _ us hl => match us, hl with | [_], _ => rfl
  have F24 := fun_mk (st := s_voice_of) l24 c24 k24
  have b24 := F24.binds (ps := ["row"]) fun _ _ _ _ _ _ us hl => match us, hl with | [_], _ => rfl
  have F25 := fun_mk (st := s_read) l25 c25 k25
  have b25 := F25.binds (ps := ["text"]) fun _ _ _ _ _ _ us hl => match us, hl with | [_], _ => rfl
  have F27 := fun_mk (st := s__law_at) l27 c27 k27
  have b27 := F27.binds (ps := ["_law_script", "_law_k"]) fun _ _ _ _ _ _ us hl => match us, hl with | [_, _], _ => rfl
  have F28 := fun_mk (st := s__law_whole) l28 c28 k28
  have b28 := F28.binds (ps := ["_law_thing"]) fun _ _ _ _ _ _ us hl => match us, hl with | [_], _ => rfl
  have F29 := fun_mk (st := s__law_notes) l29 c29 k29
  have b29 := F29.binds (ps := ["_law_numbers", "_law_time", "_law_pitch", "_law_scale"]) fun _ _ _ _ _ _ us hl => match us, hl with | [_, _, _, _], _ => rfl
  have F30 := fun_mk (st := s__law_piece) l30 c30 k30
  have b30 := F30.binds (ps := ["_law_script"]) fun _ _ _ _ _ _ us hl => match us, hl with | [_], _ => rfl
  have F31 := fun_mk (st := s__law_number) l31 c31 k31
  have b31 := F31.binds (ps := ["_law_word"]) fun _ _ _ _ _ _ us hl => match us, hl with | [_], _ => rfl
  have F32 := fun_mk (st := s__law_note) l32 c32 k32
  have b32 := F32.binds (ps := ["_law_part"]) fun _ _ _ _ _ _ us hl => match us, hl with | [_], _ => rfl
  have F33 := fun_mk (st := s__law_piece_of) l33 c33 k33
  have b33 := F33.binds (ps := ["_law_text"]) fun _ _ _ _ _ _ us hl => match us, hl with | [_], _ => rfl
  have F34 := fun_mk (st := s__law_shown) l34 c34 k34
  have b34 := F34.binds (ps := ["_law_piece_here"]) fun _ _ _ _ _ _ us hl => match us, hl with | [_], _ => rfl
  have F35 := fun_mk (st := s__law_bent) l35 c35 k35
  have b35 := F35.binds (ps := ["_law_text", "_law_way", "_law_number_here"]) fun _ _ _ _ _ _ us hl => match us, hl with | [_, _, _], _ => rfl
  have F36 := fun_mk (st := s__law_tried) l36 c36 k36
  have b36 := F36.binds (ps := ["_law_text"]) fun _ _ _ _ _ _ us hl => match us, hl with | [_], _ => rfl
  have F37 := fun_mk (st := s_law) l37 c37 k37
  refine ⟨PySem.W.fnOf "law" "law" (defArgs s_law) (defBody s_law) (defScope s_law) .none kV37 dc37 pm37 an37 cd37 ct37, fun s v => .of_eq rfl, fun base _ _ => ?_⟩
  have h_is_whole : FD l.prog w K mg base cl "is_whole" 1 1 F_is_whole := ⟨f14, _, _, PySem.W.mg_of X G a14, k14, b14, ok_is_whole F14 T ⟩
  have hN_is_whole : FDN l.prog w K mg base cl "is_whole" 1 1 F_is_whole := ⟨f14, _, _, PySem.W.mg_of X G a14, k14, b14, okN_is_whole F14 T ⟩
  have h_is_note : FD l.prog w K mg base cl "is_note" 2 1 F_is_note := ⟨f15, _, _, PySem.W.mg_of X G a15, k15, b15, ok_is_note F15 T h_is_whole⟩
  have hN_is_note : FDN l.prog w K mg base cl "is_note" 2 1 F_is_note := ⟨f15, _, _, PySem.W.mg_of X G a15, k15, b15, okN_is_note F15 T hN_is_whole⟩
  have h_end_of : FD l.prog w K mg base cl "end_of" 1 1 F_end_of := ⟨f16, _, _, PySem.W.mg_of X G a16, k16, b16, ok_end_of F16 T ⟩
  have hN_end_of : FDN l.prog w K mg base cl "end_of" 1 1 F_end_of := ⟨f16, _, _, PySem.W.mg_of X G a16, k16, b16, okN_end_of F16 T ⟩
  have h_is_voice : FD l.prog w K mg base cl "is_voice" 3 1 F_is_voice := ⟨f17, _, _, PySem.W.mg_of X G a17, k17, b17, ok_is_voice F17 T h_is_note h_end_of⟩
  have hN_is_voice : FDN l.prog w K mg base cl "is_voice" 3 1 F_is_voice := ⟨f17, _, _, PySem.W.mg_of X G a17, k17, b17, okN_is_voice F17 T hN_is_note hN_end_of⟩
  have h_need_piece : FD l.prog w K mg base cl "need_piece" 4 1 F_need_pieceX := ⟨f18, _, _, PySem.W.mg_of X G a18, k18, b18, ok_need_piece F18 T h_is_voice⟩
  have hN_need_piece : FDN l.prog w K mg base cl "need_piece" 4 1 F_need_pieceX := ⟨f18, _, _, PySem.W.mg_of X G a18, k18, b18, okN_need_piece F18 T hN_is_voice⟩
  have h_written : FD l.prog w K mg base cl "written" 5 1 F_written := ⟨f22, _, _, PySem.W.mg_of X G a22, k22, b22, ok_written F22 T h_need_piece⟩
  have h_number_of : FD l.prog w K mg base cl "number_of" 1 1 F_number_of := ⟨f23, _, _, PySem.W.mg_of X G a23, k23, b23, ok_number_of F23 T ⟩
  have h_voice_of : FF l.prog w K mg base cl "voice_of" 2 1 F_voice_of := ⟨f24, _, _, PySem.W.mg_of X G a24, k24, b24, ok_voice_of F24 T h_number_of⟩
  have h_read : FX l.prog w K mg base cl "read" 6 1 F_read := ⟨f25, _, _, PySem.W.mg_of X G a25, k25, b25, ok_read F25 T h_written h_voice_of hN_need_piece⟩
  have h__law_at : FD l.prog w K mg base cl "_law_at" 1 2 F__law_at := ⟨f27, _, _, PySem.W.mg_of X G a27, k27, b27, ok__law_at F27 T ⟩
  have h__law_whole : FD l.prog w K mg base cl "_law_whole" 1 1 F__law_whole := ⟨f28, _, _, PySem.W.mg_of X G a28, k28, b28, ok__law_whole F28 T ⟩
  have h__law_notes : FD l.prog w K mg base cl "_law_notes" 1 4 F__law_notes := ⟨f29, _, _, PySem.W.mg_of X G a29, k29, b29, ok__law_notes F29 T ⟩
  have h__law_piece : FD l.prog w K mg base cl "_law_piece" 2 1 F__law_pieceT := ⟨f30, _, _, PySem.W.mg_of X G a30, k30, b30, ok__law_piece F30 T h__law_at h__law_notes⟩
  have h__law_number : FD l.prog w K mg base cl "_law_number" 1 1 F__law_numberT := ⟨f31, _, _, PySem.W.mg_of X G a31, k31, b31, ok__law_number F31 T ⟩
  have h__law_note : FD l.prog w K mg base cl "_law_note" 2 1 F__law_noteT := ⟨f32, _, _, PySem.W.mg_of X G a32, k32, b32, ok__law_note F32 T h__law_number⟩
  have h__law_piece_of : FD l.prog w K mg base cl "_law_piece_of" 3 1 F__law_piece_of := ⟨f33, _, _, PySem.W.mg_of X G a33, k33, b33, ok__law_piece_of F33 T h__law_note⟩
  have h__law_shown : FD l.prog w K mg base cl "_law_shown" 1 1 F__law_shown := ⟨f34, _, _, PySem.W.mg_of X G a34, k34, b34, ok__law_shown F34 T ⟩
  have h__law_bent : FD l.prog w K mg base cl "_law_bent" 1 3 F__law_bent := ⟨f35, _, _, PySem.W.mg_of X G a35, k35, b35, ok__law_bent F35 T ⟩
  have h__law_tried : FX l.prog w K mg base cl "_law_tried" 7 1 F__law_tried := ⟨f36, _, _, PySem.W.mg_of X G a36, k36, b36, ok__law_tried F36 T h_read⟩
  exact FnOk.imp (ok_law F37 T h_written h__law_at h__law_whole h__law_piece h__law_piece_of h__law_shown h__law_bent h__law_tried) spT_of
end VW
open PySem PySem.W PyProof.Rows in
set_option maxHeartbeats 0 in
theorem PySem.Challenge.cw_voiceweave_k13_texts_holds : PySem.Challenge.rw_voiceweave_k13_texts.Holds := by
  w_on; o_law; k_head; (case hw => w_witness2)
  k_fill
  refine L2.walk_of (l := PySem.Challenge.rw_voiceweave_k13_texts) (n := 63) (k := 8) (x := "_law_script") (CX := fun w => L2.CX PySem.Challenge.rw_voiceweave_k13_texts.prog w) (sp := fun w => VW.spT _ VW.F_law) rfl (by decide) rfl ⟨rfl, by decide, by decide⟩ (fun w h Y => PySem.W.kIn_of Y) ?F (fun _ _ a ns hl ho hS => VW.spT_sc ho hS (VW.law_true ns hl)) (fun _ _ _ _ _ ⟨_, _, _, _, _, _, _, _, _, _, _, _, z⟩ => z)
  case F =>
    intro w mg fa h KX G hmg
    refine' VW.all_mk KX G hmg ?a14 ?l14 ?c14 ?k14 ?a15 ?l15 ?c15 ?k15 ?a16 ?l16 ?c16 ?k16 ?a17 ?l17 ?c17 ?k17 ?a18 ?l18 ?c18 ?k18 ?a22 ?l22 ?c22 ?k22 ?a23 ?l23 ?c23 ?k23 ?a24 ?l24 ?c24 ?k24 ?a25 ?l25 ?c25 ?k25 ?a27 ?l27 ?c27 ?k27 ?a28 ?l28 ?c28 ?k28 ?a29 ?l29 ?c29 ?k29 ?a30 ?l30 ?c30 ?k30 ?a31 ?l31 ?c31 ?k31 ?a32 ?l32 ?c32 ?k32 ?a33 ?l33 ?c33 ?k33 ?a34 ?l34 ?c34 ?k34 ?a35 ?l35 ?c35 ?k35 ?a36 ?l36 ?c36 ?k36 ?a37 ?l37 ?c37 ?k37 ?z_ValueError ?z_bool ?z_enumerate ?z_int ?z_isinstance ?z_len ?z_list ?z_min ?z_range ?z_str ?z_tuple ?v_FIGURES ?v_LAST ?v_MOST_FIGURES ?v_MOST_PITCH ?v_MOST_VOICES ?g_BadEntry ?g_BadNumber ?g_BadPiece ?g_BadTheme ?g_Clash ?g_NoText ?g_OutOfRange ?g_Uneven ?g_WeaveError ?e_BadPiece ?p_BadPiece ?s_xBadPiece ?y_BadPiece ?e_NoText ?p_NoText ?s_xNoText ?y_NoText ?q1_text ?q2_text ?q3_text ?q4_text ?q5_text ?q6_text ?q7_text ?q8_text ?d_BadEntry ?t_BadEntry ?v_BadEntry ?d_BadNumber ?t_BadNumber ?v_BadNumber ?d_BadPiece ?t_BadPiece ?v_BadPiece ?d_BadTheme ?t_BadTheme ?v_BadTheme ?d_Clash ?t_Clash ?v_Clash ?d_NoText ?t_NoText ?v_NoText ?d_OutOfRange ?t_OutOfRange ?v_OutOfRange ?d_Uneven ?t_Uneven ?v_Uneven ?d_WeaveError ?t_WeaveError ?v_WeaveError ?u_piece_BadPiece ?u_text_BadEntry ?u_text_BadNumber ?u_text_BadPiece ?u_text_BadTheme ?u_text_Clash ?u_text_NoText ?u_text_OutOfRange ?u_text_Uneven ?u_text_ValueError ?u_text_WeaveError ?w_text_BadEntry ?w_text_BadNumber ?w_text_BadPiece ?w_text_BadTheme ?w_text_Clash ?w_text_OutOfRange ?w_text_Uneven
    (case a14 => k_is)
    (case l14 => k_is)
    (case c14 => k_is)
    (case k14 => k_is)
    (case a15 => k_is)
    (case l15 => k_is)
    (case c15 => k_is)
    (case k15 => k_is)
    (case a16 => k_is)
    (case l16 => k_is)
    (case c16 => k_is)
    (case k16 => k_is)
    (case a17 => k_is)
    (case l17 => k_is)
    (case c17 => k_is)
    (case k17 => k_is)
    (case a18 => k_is)
    (case l18 => k_is)
    (case c18 => k_is)
    (case k18 => k_is)
    (case a22 => k_is)
    (case l22 => k_is)
    (case c22 => k_is)
    (case k22 => k_is)
    (case a23 => k_is)
    (case l23 => k_is)
    (case c23 => k_is)
    (case k23 => k_is)
    (case a24 => k_is)
    (case l24 => k_is)
    (case c24 => k_is)
    (case k24 => k_is)
    (case a25 => k_is)
    (case l25 => k_is)
    (case c25 => k_is)
    (case k25 => k_is)
    (case a27 => k_is)
    (case l27 => k_is)
    (case c27 => k_is)
    (case k27 => k_is)
    (case a28 => k_is)
    (case l28 => k_is)
    (case c28 => k_is)
    (case k28 => k_is)
    (case a29 => k_is)
    (case l29 => k_is)
    (case c29 => k_is)
    (case k29 => k_is)
    (case a30 => k_is)
    (case l30 => k_is)
    (case c30 => k_is)
    (case k30 => k_is)
    (case a31 => k_is)
    (case l31 => k_is)
    (case c31 => k_is)
    (case k31 => k_is)
    (case a32 => k_is)
    (case l32 => k_is)
    (case c32 => k_is)
    (case k32 => k_is)
    (case a33 => k_is)
    (case l33 => k_is)
    (case c33 => k_is)
    (case k33 => k_is)
    (case a34 => k_is)
    (case l34 => k_is)
    (case c34 => k_is)
    (case k34 => k_is)
    (case a35 => k_is)
    (case l35 => k_is)
    (case c35 => k_is)
    (case k35 => k_is)
    (case a36 => k_is)
    (case l36 => k_is)
    (case c36 => k_is)
    (case k36 => k_is)
    (case a37 => k_is)
    (case l37 => k_is)
    (case c37 => k_is)
    (case k37 => k_is)
    (case z_ValueError => k_is)
    (case z_bool => k_is)
    (case z_enumerate => k_is)
    (case z_int => k_is)
    (case z_isinstance => k_is)
    (case z_len => k_is)
    (case z_list => k_is)
    (case z_min => k_is)
    (case z_range => k_is)
    (case z_str => k_is)
    (case z_tuple => k_is)
    (case v_FIGURES => k_is)
    (case v_LAST => k_is)
    (case v_MOST_FIGURES => k_is)
    (case v_MOST_PITCH => k_is)
    (case v_MOST_VOICES => k_is)
    (case g_BadEntry => k_is)
    (case g_BadNumber => k_is)
    (case g_BadPiece => k_is)
    (case g_BadTheme => k_is)
    (case g_Clash => k_is)
    (case g_NoText => k_is)
    (case g_OutOfRange => k_is)
    (case g_Uneven => k_is)
    (case g_WeaveError => k_is)
    (case e_BadPiece => k_exc)
    (case p_BadPiece => k_is)
    (case s_xBadPiece => k_is)
    (case y_BadPiece => k_is)
    (case e_NoText => k_exc)
    (case p_NoText => k_is)
    (case s_xNoText => k_is)
    (case y_NoText => k_is)
    (case q1_text => k_is)
    (case q2_text => k_is)
    (case q3_text => k_is)
    (case q4_text => k_is)
    (case q5_text => k_is)
    (case q6_text => k_is)
    (case q7_text => k_is)
    (case q8_text => k_is)
    (case d_BadEntry => k_is)
    (case t_BadEntry => k_is)
    (case v_BadEntry => k_is)
    (case d_BadNumber => k_is)
    (case t_BadNumber => k_is)
    (case v_BadNumber => k_is)
    (case d_BadPiece => k_is)
    (case t_BadPiece => k_is)
    (case v_BadPiece => k_is)
    (case d_BadTheme => k_is)
    (case t_BadTheme => k_is)
    (case v_BadTheme => k_is)
    (case d_Clash => k_is)
    (case t_Clash => k_is)
    (case v_Clash => k_is)
    (case d_NoText => k_is)
    (case t_NoText => k_is)
    (case v_NoText => k_is)
    (case d_OutOfRange => k_is)
    (case t_OutOfRange => k_is)
    (case v_OutOfRange => k_is)
    (case d_Uneven => k_is)
    (case t_Uneven => k_is)
    (case v_Uneven => k_is)
    (case d_WeaveError => k_is)
    (case t_WeaveError => k_is)
    (case v_WeaveError => k_is)
    (case u_piece_BadPiece => k_is)
    (case u_text_BadEntry => k_is)
    (case u_text_BadNumber => k_is)
    (case u_text_BadPiece => k_is)
    (case u_text_BadTheme => k_is)
    (case u_text_Clash => k_is)
    (case u_text_NoText => k_is)
    (case u_text_OutOfRange => k_is)
    (case u_text_Uneven => k_is)
    (case u_text_ValueError => k_is)
    (case u_text_WeaveError => k_is)
    (case w_text_BadEntry => decide)
    (case w_text_BadNumber => decide)
    (case w_text_BadPiece => decide)
    (case w_text_BadTheme => decide)
    (case w_text_Clash => decide)
    (case w_text_OutOfRange => decide)
    (case w_text_Uneven => decide)
