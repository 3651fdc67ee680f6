import PyProof.Rows.All
import Wide.All
import OpenK.AllK
import Wide.FinOn
import HandS.ForMost
import HandS.Evl
import HandS.Conv
import HandS.IsInst
import HandS.SortInts
import HandS.Exc
import HandS.ExcOwn
import HandS.WordsExc
import HandS.Defaults
import KE.KStateDown
import HandS.Head0
import HandS.Head1
import HandS.Head2
import HandS.HeadEnd
import HandS.HeadHook1
import HandS.HeadHook2
import HandS.Rev
import HandS.ExcIs
import HandS.HotCalls
import HandS.Style
import KE.GoesComp
import KE.KAsSuite
import HandS.SetFor
import HandS.Strs
import HandS.More
import HandS.Deep
import PyProof.StrOps2
import PySem.Challenge.RW_undogates_k12_read_or_refused
set_option Elab.async false
set_option linter.all false
set_option maxRecDepth 100000
set_option maxHeartbeats 4000000
namespace U
open PySem PySem.Spec PyProof.Rows L2

abbrev Fg := PySem.W.Frag
abbrev Dn := List (Option PyData)
/-- the object at a (an exception that is handled), as a datum -/
def excD (a : Addr) : PyData := .dict [(.int (a : Nat), .none)]
/-- the script as a datum -/
def scrD (ns : List Int) : PyData := .dict [(.list (ns.map .int), .none)]

mutual
inductive Dq (K : Fg) (H : Hp) : V → PyData → Prop
  | non : Dq K H .non .none
  | bl (b : Bool) : Dq K H (.bl b) (.bool b)
  | int (i : Int) : Dq K H (.int i) (.int i)
  | str (x : Str) : Dq K H (.str x) (.str x)
  | lst {a : Addr} {xs : List V} {ds : List PyData} : H a = some (.lst xs) → DqA K H xs ds → Dq K H (.ref a) (.list ds)
  | tup {a : Addr} {xs : List V} {ds : List PyData} : H a = some (.tup xs) → DqA K H xs ds → Dq K H (.ref a) (.tuple ds)
  | scr {a : Addr} {ns : List Int} : SqL K H a (ns.map V.int) → Dq K H (.ref a) (scrD ns)
  | exc (a : Addr) : Dq K H (.ref a) (excD a)
inductive DqA (K : Fg) (H : Hp) : List V → List PyData → Prop
  | nil : DqA K H [] []
  | cons {v : V} {vs : List V} {d : PyData} {ds : List PyData} : Dq K H v d → DqA K H vs ds → DqA K H (v :: vs) (d :: ds)
end

abbrev Ex := Evl.Ex
theorem Ex.refl (H : Hp) : Ex H H := Evl.Ex.refl H
theorem Ex.trans {H H1 H2 : Hp} (a : Ex H H1) (b : Ex H1 H2) : Ex H H2 := Evl.Ex.trans a b

mutual
theorem Dq.mono {K : Fg} {H H' : Hp} (e : Ex H H') : ∀ {v : V} {d : PyData}, Dq K H v d → Dq K H' v d
  | _, _, .non => .non
  | _, _, .bl b => .bl b
  | _, _, .int i => .int i
  | _, _, .str x => .str x
  | _, _, .lst h hs => .lst (e _ _ h) (DqA.mono e hs)
  | _, _, .tup h hs => .tup (e _ _ h) (DqA.mono e hs)
  | _, _, .scr h => .scr (Evl.ex_l e h)
  | _, _, .exc a => .exc a
theorem DqA.mono {K : Fg} {H H' : Hp} (e : Ex H H') : ∀ {vs : List V} {ds : List PyData}, DqA K H vs ds → DqA K H' vs ds
  | _, _, .nil => .nil
  | _, _, .cons h hs => .cons (Dq.mono e h) (DqA.mono e hs)
end

/-! ### frozen data: no list in it -/
mutual
def fz : PyData → Bool
  | .none => true
  | .bool _ => true
  | .int _ => true
  | .str _ => true
  | .list _ => false
  | .tuple xs => fzA xs
  | .dict _ => false
def fzA : List PyData → Bool
  | [] => true
  | x :: xs => fz x && fzA xs
end
theorem fzA_iff : ∀ {ds : List PyData}, fzA ds = true ↔ ∀ d ∈ ds, fz d = true
  | [] => by simp [fzA]
  | x :: xs => by simp [fzA, fzA_iff (ds := xs)]
/-- all tuples stand -/
def Tk (H H' : Hp) : Prop := ∀ a xs, H a = some (.tup xs) → H' a = some (.tup xs)
mutual
theorem Dq.frz {K : Fg} {H H' : Hp} (e : Tk H H') : ∀ {v : V} {d : PyData}, Dq K H v d → fz d = true → Dq K H' v d
  | _, _, .non, _ => .non
  | _, _, .bl b, _ => .bl b
  | _, _, .int i, _ => .int i
  | _, _, .str x, _ => .str x
  | _, _, .lst h hs, f => by simp [fz] at f
  | _, _, .tup h hs, f => .tup (e _ _ h) (DqA.frz e hs (by simpa [fz] using f))
  | _, _, .scr h, f => by simp [fz, scrD] at f
  | _, _, .exc a, f => by simp [fz, excD] at f
theorem DqA.frz {K : Fg} {H H' : Hp} (e : Tk H H') : ∀ {vs : List V} {ds : List PyData}, DqA K H vs ds → fzA ds = true → DqA K H' vs ds
  | _, _, .nil, _ => .nil
  | _, _, .cons h hs, f => by
    simp only [fzA, Bool.and_eq_true] at f
    exact .cons (Dq.frz e h f.1) (DqA.frz e hs f.2)
end

section
variable {K : Fg} {H : Hp}
theorem DqA.length : ∀ {vs : List V} {ds : List PyData}, DqA K H vs ds → vs.length = ds.length
  | _, _, .nil => rfl
  | _, _, .cons _ hs => by simp [DqA.length hs]
theorem DqA.get : ∀ {vs : List V} {ds : List PyData} {i : Nat} {d : PyData}, DqA K H vs ds → ds[i]? = some d → ∃ v, vs[i]? = some v ∧ Dq K H v d
  | _, _, _, _, .nil, e => by simp at e
  | _, _, 0, _, .cons h _, e => by simp at e; subst e; exact ⟨_, rfl, h⟩
  | _, _, i + 1, d, .cons _ hs, e => by
    obtain ⟨v, h1, h2⟩ := DqA.get (i := i) (d := d) hs (by simpa using e)
    exact ⟨v, by simpa using h1, h2⟩
theorem DqA.getV : ∀ {vs : List V} {ds : List PyData} {i : Nat} {v : V}, DqA K H vs ds → vs[i]? = some v → ∃ d, ds[i]? = some d ∧ Dq K H v d
  | _, _, _, _, .nil, e => by simp at e
  | _, _, 0, _, .cons h _, e => by simp at e; subst e; exact ⟨_, rfl, h⟩
  | _, _, i + 1, d, .cons _ hs, e => by
    obtain ⟨v, h1, h2⟩ := DqA.getV (i := i) (v := d) hs (by simpa using e)
    exact ⟨v, by simpa using h1, h2⟩
theorem DqA.append : ∀ {vs ws : List V} {ds es : List PyData}, DqA K H vs ds → DqA K H ws es → DqA K H (vs ++ ws) (ds ++ es)
  | _, _, _, _, .nil, h => h
  | _, _, _, _, .cons h hs, h2 => .cons h (DqA.append hs h2)
theorem DqA.take : ∀ {vs : List V} {ds : List PyData} (n : Nat), DqA K H vs ds → DqA K H (vs.take n) (ds.take n)
  | _, _, 0, _ => by simp; exact .nil
  | _, _, _ + 1, .nil => .nil
  | _, _, n + 1, .cons h hs => .cons h (DqA.take n hs)
theorem DqA.drop : ∀ {vs : List V} {ds : List PyData} (n : Nat), DqA K H vs ds → DqA K H (vs.drop n) (ds.drop n)
  | _, _, 0, r => r
  | _, _, _ + 1, .nil => .nil
  | _, _, n + 1, .cons _ hs => DqA.drop n hs
theorem DqA.reverse : ∀ {vs : List V} {ds : List PyData}, DqA K H vs ds → DqA K H vs.reverse ds.reverse
  | _, _, .nil => .nil
  | _, _, .cons h hs => by
    rw [List.reverse_cons, List.reverse_cons]
    exact DqA.append (DqA.reverse hs) (.cons h .nil)
theorem DqA.set {v : V} {d : PyData} (h : Dq K H v d) : ∀ {vs : List V} {ds : List PyData} (i : Nat), DqA K H vs ds → DqA K H (vs.set i v) (ds.set i d)
  | _, _, _, .nil => .nil
  | _, _, 0, .cons _ hs => .cons h hs
  | _, _, i + 1, .cons h2 hs => .cons h2 (DqA.set h i hs)
theorem DqA.erase : ∀ {vs : List V} {ds : List PyData} (i : Nat), DqA K H vs ds → DqA K H (vs.eraseIdx i) (ds.eraseIdx i)
  | _, _, _, .nil => .nil
  | _, _, 0, .cons _ hs => hs
  | _, _, i + 1, .cons h2 hs => .cons h2 (DqA.erase i hs)
theorem DqA.dropLast : ∀ {vs : List V} {ds : List PyData}, DqA K H vs ds → DqA K H vs.dropLast ds.dropLast
  | _, _, .nil => .nil
  | _, _, .cons h .nil => .nil
  | _, _, .cons h (.cons h2 hs) => .cons h (DqA.dropLast (.cons h2 hs))
theorem DqA.flatRep {vs : List V} {ds : List PyData} (h : DqA K H vs ds) : ∀ k : Nat, DqA K H (List.replicate k vs).flatten (List.replicate k ds).flatten
  | 0 => .nil
  | k + 1 => by
    simp only [List.replicate_succ, List.flatten_cons]
    exact h.append (DqA.flatRep h k)
theorem Dq.int_inv {v : V} {i : Int} : Dq K H v (.int i) → v = .int i | .int _ => rfl
theorem Dq.bl_inv {v : V} {i : Bool} : Dq K H v (.bool i) → v = .bl i | .bl _ => rfl
theorem Dq.str_inv {v : V} {i : Str} : Dq K H v (.str i) → v = .str i | .str _ => rfl
theorem Dq.non_inv {v : V} : Dq K H v .none → v = .non | .non => rfl
theorem Dq.lst_inv {v : V} {ds : List PyData} : Dq K H v (.list ds) → ∃ a xs, v = .ref a ∧ H a = some (.lst xs) ∧ DqA K H xs ds | .lst h hs => ⟨_, _, rfl, h, hs⟩
theorem Dq.tup_inv {v : V} {ds : List PyData} : Dq K H v (.tuple ds) → ∃ a xs, v = .ref a ∧ H a = some (.tup xs) ∧ DqA K H xs ds | .tup h hs => ⟨_, _, rfl, h, hs⟩
theorem ints_inj : ∀ {a b : List Int}, a.map PyData.int = b.map PyData.int → a = b
  | [], [], _ => rfl
  | [], _ :: _, h => by simp at h
  | _ :: _, [], h => by simp at h
  | x :: a, y :: b, h => by
    simp only [List.map_cons, List.cons.injEq, PyData.int.injEq] at h
    rw [h.1, ints_inj h.2]
theorem Dq.scr_inv {v : V} {ns : List Int} (h : Dq K H v (scrD ns)) : ∃ a, v = .ref a ∧ SqL K H a (ns.map V.int) := by
  generalize e : scrD ns = d at h
  cases h with
  | scr hs =>
    rename_i a ms
    have e2 : ns = ms := ints_inj (by simpa [scrD] using e)
    subst e2
    exact ⟨a, rfl, hs⟩
  | exc hs => simp [scrD, excD] at e
  | _ => simp [scrD] at e
theorem Dq.exc_inv {v : V} {a : Addr} (h : Dq K H v (excD a)) : v = .ref a := by
  generalize e : excD a = d at h
  cases h with
  | scr hs => simp [scrD, excD] at e
  | exc b =>
    have e2 : a = b := by
      have e3 : ((a : Nat) : Int) = ((b : Nat) : Int) := by simpa [excD] using e
      exact Int.ofNat.inj e3
    rw [e2]
  | _ => simp [excD] at e
theorem DqA.cons_inv {vs : List V} {d : PyData} {ds : List PyData} : DqA K H vs (d :: ds) → ∃ v r, vs = v :: r ∧ Dq K H v d ∧ DqA K H r ds | .cons h hs => ⟨_, _, rfl, h, hs⟩
theorem DqA.nil_inv {vs : List V} : DqA K H vs [] → vs = [] | .nil => rfl
theorem DqA.ints : ∀ {vs : List V} {ns : List Int}, DqA K H vs (ns.map .int) → vs = ns.map .int
  | _, [], .nil => rfl
  | _, n :: ns, .cons h hs => by rw [Dq.int_inv h, DqA.ints hs]; rfl
theorem DqA.of_ints : ∀ {ns : List Int}, DqA K H (ns.map V.int) (ns.map .int)
  | [] => .nil
  | n :: ns => .cons (.int n) DqA.of_ints
theorem DqA.bls : ∀ {vs : List V} {ns : List Bool}, DqA K H vs (ns.map .bool) → vs = ns.map .bl
  | _, [], .nil => rfl
  | _, n :: ns, .cons h hs => by rw [Dq.bl_inv h, DqA.bls hs]; rfl
theorem DqA.strs : ∀ {vs : List V} {ns : List Str}, DqA K H vs (ns.map .str) → vs = ns.map .str
  | _, [], .nil => rfl
  | _, n :: ns, .cons h hs => by rw [Dq.str_inv h, DqA.strs hs]; rfl
theorem DqA.of_strs : ∀ {ns : List Str}, DqA K H (ns.map V.str) (ns.map .str)
  | [] => .nil
  | n :: ns => .cons (.str n) DqA.of_strs
end

theorem eraseIdx_mp {α β : Type} (f : α → β) : ∀ (l : List α) (i : Nat), (l.map f).eraseIdx i = (l.eraseIdx i).map f
  | [], _ => rfl
  | _ :: _, 0 => rfl
  | x :: l, i + 1 => by
    show f x :: (l.map f).eraseIdx i = f x :: (l.eraseIdx i).map f
    rw [eraseIdx_mp f l i]
/-! ### the two heaps: M what is data, H all that stands -/
structure Gr (M H M2 H2 : Hp) : Prop where
  mm : Ex M M2
  hh : Ex H H2
  mh : Ex M2 H2
  nw : ∀ a o, H a = some o → M a = none → M2 a = none
section
variable {M H M1 H1 M2 H2 : Hp} {p : Addr} {o : HO}
theorem Gr.refl (e : Ex M H) : Gr M H M H := ⟨Ex.refl _, Ex.refl _, e, fun _ _ _ h => h⟩
theorem Gr.trans (a : Gr M H M1 H1) (b : Gr M1 H1 M2 H2) : Gr M H M2 H2 :=
  ⟨a.mm.trans b.mm, a.hh.trans b.hh, b.mh, fun x o h n => b.nw x o (a.hh x o h) (a.nw x o h n)⟩
theorem ex_none (e : Ex M H) (h : H p = none) : M p = none := Evl.fresh_back e h
theorem ex_upd2 (e : Ex M H) : Ex (upd M p o) (upd H p o) := fun a u h => by
  by_cases ha : a = p
  · subst ha; rw [upd_same] at h ⊢; exact h
  · rw [upd_ne ha] at h ⊢; exact e a u h
theorem ex_updR (e : Ex M H) (h : M p = none) : Ex M (upd H p o) := Evl.Ex.mut e h
theorem ex_updL (e : Ex M H) (h : H p = some o) : Ex (upd M p o) H := fun a u q => by
  by_cases ha : a = p
  · subst ha; rw [upd_same] at q; cases q; exact h
  · rw [upd_ne ha] at q; exact e a u q
theorem Gr.new (e : Ex M H) (h : H p = none) : Gr M H (upd M p o) (upd H p o) :=
  ⟨Evl.Ex.new (ex_none e h), Evl.Ex.new h, ex_upd2 e, fun a u ha hm => by
    rw [upd_ne (ne_of_none ha h)]; exact hm⟩
theorem Gr.hid (e : Ex M H) (h : H p = none) : Gr M H M (upd H p o) :=
  ⟨Ex.refl _, Evl.Ex.new h, ex_updR e (ex_none e h), fun _ _ _ hm => hm⟩
/-- a hidden new list becomes data -/
theorem Gr.show_ (g : Gr M H M2 H2) (h : H p = none) (h2 : M2 p = none) (ho : H2 p = some o) : Gr M H (upd M2 p o) H2 :=
  ⟨g.mm.trans (Evl.Ex.new h2), g.hh, ex_updL g.mh ho, fun a u ha hm => by
    rw [upd_ne (ne_of_none ha h)]; exact g.nw a u ha hm⟩
end

structure Re (K : Fg) (M : Hp) (σ : L2.St) (δ : Dn) : Prop where
  len : σ.length = δ.length
  at_ : ∀ (i : Nat) (d : PyData), δ[i]? = some (some d) → ∃ v, σ[i]? = some (some v) ∧ Dq K M v d
theorem Re.mono {K : Fg} {M M' : Hp} {σ : L2.St} {δ : Dn} (r : Re K M σ δ) (e : Ex M M') : Re K M' σ δ :=
  ⟨r.len, fun i d h => let ⟨v, h1, h2⟩ := r.at_ i d h; ⟨v, h1, h2.mono e⟩⟩
theorem Re.set {K : Fg} {M : Hp} {σ : L2.St} {δ : Dn} {v : V} {d : PyData} (r : Re K M σ δ) (j : Nat) (h : Dq K M v d) : Re K M (σ.set j (some v)) (δ.set j (some d)) := by
  refine ⟨by simp [r.len], fun i d' hi => ?_⟩
  by_cases e : j = i
  · subst e
    by_cases hl : j < δ.length
    · rw [List.getElem?_set_self hl] at hi
      cases hi
      exact ⟨v, by rw [List.getElem?_set_self (by rw [r.len]; exact hl)], h⟩
    · rw [List.getElem?_eq_none (by simpa using hl)] at hi
      cases hi
  · rw [List.getElem?_set_ne e] at hi
    obtain ⟨u, h1, h2⟩ := r.at_ i d' hi
    exact ⟨u, by rw [List.getElem?_set_ne e]; exact h1, h2⟩
theorem Re.wipe {K : Fg} {M : Hp} {σ : L2.St} {δ : Dn} (r : Re K M σ δ) (j : Nat) : Re K M (L2.wipe σ [j]) (δ.set j none) := by
  refine ⟨by simp [L2.wipe, r.len], fun i d' hi => ?_⟩
  show ∃ v, (σ.set j none)[i]? = some (some v) ∧ Dq K M v d'
  by_cases e : j = i
  · subst e
    by_cases hl : j < δ.length
    · rw [List.getElem?_set_self hl] at hi; cases hi
    · rw [List.getElem?_eq_none (by simpa using hl)] at hi; cases hi
  · rw [List.getElem?_set_ne e] at hi
    obtain ⟨u, h1, h2⟩ := r.at_ i d' hi
    exact ⟨u, by rw [List.getElem?_set_ne e]; exact h1, h2⟩

/-! ### what an expression is worth, as data -/
def ED (K : Fg) (te : TE) (δ : Dn) (d : PyData) : Prop := ∀ M H σ, Ex M H → Re K M σ δ → ∀ Q : VK, (∀ v M2 H2, Gr M H M2 H2 → Dq K M2 v d → Q v H2) → te σ H Q
/-- a new list, not yet among the data -/
def EF (K : Fg) (te : TE) (δ : Dn) (ds : List PyData) : Prop := ∀ M H σ, Ex M H → Re K M σ δ → ∀ Q : VK,
  (∀ p xs M2 H2, Gr M H M2 H2 → H p = none → M2 p = none → H2 p = some (.lst xs) → DqA K M2 xs ds → Q (.ref p) H2) → te σ H Q
def ET (K : Fg) (tt : TT) (δ : Dn) (b : Bool) : Prop := ∀ M H σ, Ex M H → Re K M σ δ → ∀ Q : Bool → Hp → Prop, (∀ M2 H2, Gr M H M2 H2 → Q b H2) → tt σ H Q
def EA (K : Fg) (ta : TA) (δ : Dn) (ds : List PyData) : Prop := ∀ M H σ, Ex M H → Re K M σ δ → ∀ Q : List V → Hp → Prop, (∀ vs M2 H2, Gr M H M2 H2 → DqA K M2 vs ds → Q vs H2) → ta σ H Q
def EO (K : Fg) (to : TO) (δ : Dn) (o : Option Int) : Prop := ∀ M H σ, Ex M H → Re K M σ δ → ∀ Q : Option Int → Hp → Prop, (∀ M2 H2, Gr M H M2 H2 → Q o H2) → to σ H Q
/-- operations by values -/
def RD (K : Fg) (r : R2) (a b c : PyData) : Prop := ∀ M H x y, Ex M H → Dq K M x a → Dq K M y b → ∀ Q : VK, (∀ v M2 H2, Gr M H M2 H2 → Dq K M2 v c → Q v H2) → r x y H Q
def RF (K : Fg) (r : R2) (a b : PyData) (ds : List PyData) : Prop := ∀ M H x y, Ex M H → Dq K M x a → Dq K M y b → ∀ Q : VK,
  (∀ p xs M2 H2, Gr M H M2 H2 → H p = none → M2 p = none → H2 p = some (.lst xs) → DqA K M2 xs ds → Q (.ref p) H2) → r x y H Q
def CD (K : Fg) (r : List V → Hp → VK → Prop) (as : List PyData) (c : PyData) : Prop := ∀ M H vs, Ex M H → DqA K M vs as → ∀ Q : VK, (∀ v M2 H2, Gr M H M2 H2 → Dq K M2 v c → Q v H2) → r vs H Q
def CF (K : Fg) (r : List V → Hp → VK → Prop) (as ds : List PyData) : Prop := ∀ M H vs, Ex M H → DqA K M vs as → ∀ Q : VK,
  (∀ p xs M2 H2, Gr M H M2 H2 → H p = none → M2 p = none → H2 p = some (.lst xs) → DqA K M2 xs ds → Q (.ref p) H2) → r vs H Q

section
variable {K : Fg} {δ : Dn} {ta tb te tx : TE} {t u : TT} {a b c d e : PyData} {ds es : List PyData} {r : R2}
theorem EF.ed (h : EF K te δ ds) : ED K te δ (.list ds) := fun M H σ e r Q q =>
  h M H σ e r Q fun p xs M2 H2 g n1 n2 ho hs => q (.ref p) (upd M2 p (.lst xs)) H2 (g.show_ n1 n2 ho) (.lst upd_same (hs.mono (Evl.Ex.new n2)))
theorem CF.cd {rc : List V → Hp → VK → Prop} {as : List PyData} (h : CF K rc as ds) : CD K rc as (.list ds) := fun M H vs e r Q q =>
  h M H vs e r Q fun p xs M2 H2 g n1 n2 ho hs => q (.ref p) (upd M2 p (.lst xs)) H2 (g.show_ n1 n2 ho) (.lst upd_same (hs.mono (Evl.Ex.new n2)))
theorem ED.is (h : ED K te δ a) (e : a = b) : ED K te δ b := e ▸ h
theorem EF.is (h : EF K te δ ds) (e : ds = es) : EF K te δ es := e ▸ h
theorem ET.is {x y : Bool} (h : ET K t δ x) (e : x = y) : ET K t δ y := e ▸ h
theorem EA.is {ta : TA} (h : EA K ta δ ds) (e : ds = es) : EA K ta δ es := e ▸ h
theorem ed_var {i : Nat} (h : δ[i]? = some (some d)) : ED K (tVar i) δ d := fun M H σ e r Q q =>
  let ⟨v, h1, h2⟩ := r.at_ i d h
  ⟨v, h1, q v M H (Gr.refl e) h2⟩
theorem ed_int {i : Int} : ED K (tC (.int i)) δ (.int i) := fun M H _ e _ Q q => q _ M H (Gr.refl e) (.int i)
theorem ed_bl {i : Bool} : ED K (tC (.bl i)) δ (.bool i) := fun M H _ e _ Q q => q _ M H (Gr.refl e) (.bl i)
theorem ed_str {i : Str} : ED K (tC (.str i)) δ (.str i) := fun M H _ e _ Q q => q _ M H (Gr.refl e) (.str i)
theorem ed_non : ED K (tC .non) δ .none := fun M H _ e _ Q q => q _ M H (Gr.refl e) .non
theorem ed_op (ha : ED K ta δ a) (hb : ED K tb δ b) (hr : RD K r a b c) : ED K (tOp r ta tb) δ c := fun M H σ e rr Q q =>
  ha M H σ e rr _ fun x M1 H1 g1 dx => hb M1 H1 σ g1.mh (rr.mono g1.mm) _ fun y M2 H2 g2 dy => hr M2 H2 x y g2.mh (dx.mono g2.mm) dy Q fun v M3 H3 g3 dv => q v M3 H3 (g1.trans (g2.trans g3)) dv
theorem ef_op (ha : ED K ta δ a) (hb : ED K tb δ b) (hr : RF K r a b ds) : EF K (tOp r ta tb) δ ds := fun M H σ e rr Q q =>
  ha M H σ e rr _ fun x M1 H1 g1 dx => hb M1 H1 σ g1.mh (rr.mono g1.mm) _ fun y M2 H2 g2 dy => hr M2 H2 x y g2.mh (dx.mono g2.mm) dy Q fun p xs M3 H3 g3 n1 n2 ho hs =>
    q p xs M3 H3 (g1.trans (g2.trans g3)) (Evl.fresh_back (g1.trans g2).hh n1) n2 ho hs
theorem ed_un {r : V → Hp → VK → Prop} {g : Int → V} {i : Int} (ha : ED K ta δ (.int i)) (hr : r = rU g) {j : Int} (hj : g i = .int j) : ED K (tUn r ta) δ (.int j) := fun M H σ e rr Q q =>
  ha M H σ e rr _ fun x M1 H1 g1 dx => by
    rw [dx.int_inv, hr]
    refine ⟨i, rfl, ?_⟩
    rw [hj]
    exact q _ M1 H1 g1 (.int j)
theorem ed_neg {i : Int} (ha : ED K ta δ (.int i)) : ED K (tUn (rU fun i => .int (-i)) ta) δ (.int (-i)) := ed_un ha rfl rfl
theorem ea_nil : EA K tNil δ [] := fun M H _ e _ Q q => q [] M H (Gr.refl e) .nil
theorem ea_cons {tr : TA} (h : ED K ta δ a) (hr : EA K tr δ ds) : EA K (tCons ta tr) δ (a :: ds) := fun M H σ e rr Q q =>
  h M H σ e rr _ fun x M1 H1 g1 dx => hr M1 H1 σ g1.mh (rr.mono g1.mm) _ fun vs M2 H2 g2 dvs => q (x :: vs) M2 H2 (g1.trans g2) (.cons (dx.mono g2.mm) dvs)
theorem ea_one (h : ED K ta δ a) : EA K (tCons ta tNil) δ [a] := ea_cons h ea_nil
theorem ed_tup {tr : TA} (h : EA K tr δ ds) (hl : Nat.ble ds.length 1000 = true := by rfl) : ED K (tTup tr) δ (.tuple ds) := fun M H σ e rr Q q =>
  h M H σ e rr _ fun vs M1 H1 g1 dvs => ⟨Evl.sz_of (by rw [dvs.length]; have := Nat.le_of_ble_eq_true hl; omega), fun p hp => q (.ref p) (upd M1 p (.tup vs)) _ (g1.trans (Gr.new g1.mh hp)) (.tup upd_same (dvs.mono (Evl.Ex.new (ex_none g1.mh hp))))⟩
theorem ef_lst {tr : TA} (h : EA K tr δ ds) (hl : Nat.ble ds.length 1000 = true := by rfl) : EF K (tLst tr) δ ds := fun M H σ e rr Q q =>
  h M H σ e rr _ fun vs M1 H1 g1 dvs => ⟨Evl.sz_of (by rw [dvs.length]; have := Nat.le_of_ble_eq_true hl; omega), fun p hp =>
    q p vs M1 _ (g1.trans (Gr.hid g1.mh hp)) (Evl.fresh_back g1.hh hp) (ex_none g1.mh hp) upd_same dvs⟩
theorem ed_cb {rc : List V → Hp → VK → Prop} {ta : TA} (h : EA K ta δ ds) (hr : CD K rc ds c) : ED K (tCB rc ta) δ c := fun M H σ e rr Q q =>
  h M H σ e rr _ fun vs M1 H1 g1 dvs => hr M1 H1 vs g1.mh dvs Q fun v M2 H2 g2 dv => q v M2 H2 (g1.trans g2) dv
theorem ef_cb {rc : List V → Hp → VK → Prop} {ta : TA} (h : EA K ta δ ds) (hr : CF K rc ds es) : EF K (tCB rc ta) δ es := fun M H σ e rr Q q =>
  h M H σ e rr _ fun vs M1 H1 g1 dvs => hr M1 H1 vs g1.mh dvs Q fun p xs M2 H2 g2 n1 n2 ho hs => q p xs M2 H2 (g1.trans g2) (Evl.fresh_back g1.hh n1) n2 ho hs

/-! ### tests -/
theorem et_test {x : Bool} (h : ED K te δ (.bool x)) : ET K (tTest te) δ x := fun M H σ e rr Q q =>
  h M H σ e rr _ fun v M1 H1 g1 dv => ⟨x, dv.bl_inv, q M1 H1 g1⟩
theorem et_B {x : Bool} (h : ED K te δ (.bool x)) : ET K (tB te) δ x := fun M H σ e rr Q q =>
  h M H σ e rr _ fun v M1 H1 g1 dv => ⟨x, dv.bl_inv, q M1 H1 g1⟩
theorem et_and {x y : Bool} (h1 : ET K t δ x) (h2 : x = true → ET K u δ y) : ET K (tAnd t u) δ (x && y) := fun M H σ e rr Q q =>
  h1 M H σ e rr _ fun M1 H1 g1 => by
    cases x with
    | true =>
      show u σ H1 Q
      exact h2 rfl M1 H1 σ g1.mh (rr.mono g1.mm) Q fun M2 H2 g2 => q M2 H2 (g1.trans g2)
    | false =>
      show Q false H1
      exact q M1 H1 g1
theorem et_or {x y : Bool} (h1 : ET K t δ x) (h2 : x = false → ET K u δ y) : ET K (tOr t u) δ (x || y) := fun M H σ e rr Q q =>
  h1 M H σ e rr _ fun M1 H1 g1 => by
    cases x with
    | true =>
      show Q true H1
      exact q M1 H1 g1
    | false =>
      show u σ H1 Q
      exact h2 rfl M1 H1 σ g1.mh (rr.mono g1.mm) Q fun M2 H2 g2 => q M2 H2 (g1.trans g2)
theorem et_not {x : Bool} (h1 : ET K t δ x) : ET K (tNot t) δ (!x) := fun M H σ e rr Q q => h1 M H σ e rr _ fun M1 H1 g1 => q M1 H1 g1
theorem ed_andV {x y : Bool} (h1 : ED K ta δ (.bool x)) (h2 : x = true → ED K tb δ (.bool y)) : ED K (tAndV ta tb) δ (.bool (x && y)) := fun M H σ e rr Q q =>
  h1 M H σ e rr _ fun v M1 H1 g1 dv => ⟨x, dv.bl_inv, by
    cases x with
    | true =>
      show tb σ H1 Q
      exact h2 rfl M1 H1 σ g1.mh (rr.mono g1.mm) Q fun v M2 H2 g2 => q v M2 H2 (g1.trans g2)
    | false =>
      show Q (.bl false) H1
      exact q _ M1 H1 g1 (.bl false)⟩
theorem ed_orV {x y : Bool} (h1 : ED K ta δ (.bool x)) (h2 : x = false → ED K tb δ (.bool y)) : ED K (tOrV ta tb) δ (.bool (x || y)) := fun M H σ e rr Q q =>
  h1 M H σ e rr _ fun v M1 H1 g1 dv => ⟨x, dv.bl_inv, by
    cases x with
    | true =>
      show Q (.bl true) H1
      exact q _ M1 H1 g1 (.bl true)
    | false =>
      show tb σ H1 Q
      exact h2 rfl M1 H1 σ g1.mh (rr.mono g1.mm) Q fun v M2 H2 g2 => q v M2 H2 (g1.trans g2)⟩
theorem ed_notV {x : Bool} (h1 : ED K ta δ (.bool x)) : ED K (tNotV ta) δ (.bool (!x)) := fun M H σ e rr Q q =>
  h1 M H σ e rr _ fun v M1 H1 g1 dv => ⟨x, dv.bl_inv, q _ M1 H1 g1 (.bl (!x))⟩

/-! ### operators -/
theorem rd_I0 {g : Int → Int → V} {i j : Int} {c : PyData} (hc : ∀ M, Dq K M (g i j) c) : RD K (rI0 g) (.int i) (.int j) c := fun M H x y e dx dy Q q =>
  ⟨i, j, dx.int_inv, dy.int_inv, q _ M H (Gr.refl e) (hc M)⟩
theorem rd_I {C : Int → Int → Prop} {g : Int → Int → V} {i j : Int} {c : PyData} (h : C i j) (hc : ∀ M, Dq K M (g i j) c) : RD K (rI C g) (.int i) (.int j) c := fun M H x y e dx dy Q q =>
  ⟨i, j, dx.int_inv, dy.int_inv, h, q _ M H (Gr.refl e) (hc M)⟩
theorem ed_I0i {g : Int → Int → Int} {i j : Int} (ha : ED K ta δ (.int i)) (hb : ED K tb δ (.int j)) : ED K (tOp (rI0 fun i j => .int (g i j)) ta tb) δ (.int (g i j)) := ed_op ha hb (rd_I0 fun _ => .int _)
theorem ed_I0b {g : Int → Int → Bool} {i j : Int} (ha : ED K ta δ (.int i)) (hb : ED K tb δ (.int j)) : ED K (tOp (rI0 fun i j => .bl (g i j)) ta tb) δ (.bool (g i j)) := ed_op ha hb (rd_I0 fun _ => .bl _)
theorem ed_Ii {C : Int → Int → Prop} {g : Int → Int → Int} {i j : Int} (ha : ED K ta δ (.int i)) (hb : ED K tb δ (.int j)) (hc : C i j) : ED K (tOp (rI C fun i j => .int (g i j)) ta tb) δ (.int (g i j)) := ed_op ha hb (rd_I hc fun _ => .int _)
/-- == of scalars -/
inductive Sc : PyData → V → Prop
  | non : Sc .none .non
  | bl (b : Bool) : Sc (.bool b) (.bl b)
  | int (b : Int) : Sc (.int b) (.int b)
  | str (b : Str) : Sc (.str b) (.str b)
theorem Sc.inv {M : Hp} {d : PyData} {v w : V} (s : Sc d v) (h : Dq K M w d) : w = v := by
  cases s with
  | non => exact h.non_inv
  | bl b => exact h.bl_inv
  | int b => exact h.int_inv
  | str b => exact h.str_inv
theorem rd_eq {v w : V} (s : Sc a v) (s2 : Sc b w) (h : scal v w = true) : RD K rEq a b (.bool (decide (v = w))) := fun M H x y e dx dy Q q => by
  rw [s.inv dx, s2.inv dy]
  exact ⟨h, q _ M H (Gr.refl e) (.bl _)⟩
theorem rd_ne {v w : V} (s : Sc a v) (s2 : Sc b w) (h : scal v w = true) : RD K rNe a b (.bool (!decide (v = w))) := fun M H x y e dx dy Q q => by
  rw [s.inv dx, s2.inv dy]
  exact ⟨h, q _ M H (Gr.refl e) (.bl _)⟩
theorem ed_eqI {i j : Int} (ha : ED K ta δ (.int i)) (hb : ED K tb δ (.int j)) : ED K (tOp rEq ta tb) δ (.bool (decide (i = j))) :=
  (ed_op ha hb (rd_eq (.int i) (.int j) rfl)).is (by simp)
theorem ed_neI {i j : Int} (ha : ED K ta δ (.int i)) (hb : ED K tb δ (.int j)) : ED K (tOp rNe ta tb) δ (.bool (!decide (i = j))) :=
  (ed_op ha hb (rd_ne (.int i) (.int j) rfl)).is (by simp)
theorem ed_eqS {i j : Str} (ha : ED K ta δ (.str i)) (hb : ED K tb δ (.str j)) : ED K (tOp rEq ta tb) δ (.bool (decide (i = j))) :=
  (ed_op ha hb (rd_eq (.str i) (.str j) rfl)).is (by simp)
theorem ed_neS {i j : Str} (ha : ED K ta δ (.str i)) (hb : ED K tb δ (.str j)) : ED K (tOp rNe ta tb) δ (.bool (!decide (i = j))) :=
  (ed_op ha hb (rd_ne (.str i) (.str j) rfl)).is (by simp)
theorem ed_eqB {i j : Bool} (ha : ED K ta δ (.bool i)) (hb : ED K tb δ (.bool j)) : ED K (tOp rEq ta tb) δ (.bool (decide (i = j))) :=
  (ed_op ha hb (rd_eq (.bl i) (.bl j) rfl)).is (by simp)
theorem ed_neB {i j : Bool} (ha : ED K ta δ (.bool i)) (hb : ED K tb δ (.bool j)) : ED K (tOp rNe ta tb) δ (.bool (!decide (i = j))) :=
  (ed_op ha hb (rd_ne (.bl i) (.bl j) rfl)).is (by simp)

/-! ### deep == -/
mutual
theorem Dq.dp {H : Hp} : ∀ {v : V} {d : PyData}, Dq K H v d → d.canLay0 = true → Dp K H v d
  | _, _, .non, _ => .non
  | _, _, .bl b, _ => .bl b
  | _, _, .int i, _ => .int i
  | _, _, .str x, _ => .str x
  | _, _, .lst h hs, f => .lst (SqL.of h) (DqA.dp hs (by simpa [PyData.canLay0] using f))
  | _, _, .tup h hs, f => .tup (SqT.of h) (DqA.dp hs (by simpa [PyData.canLay0] using f))
  | _, _, .scr h, f => by simp [PyData.canLay0, scrD] at f
theorem DqA.dp {H : Hp} : ∀ {vs : List V} {ds : List PyData}, DqA K H vs ds → PyData.canLayAll0 ds = true → DpAll K H vs ds
  | _, _, .nil, _ => .nil
  | _, _, .cons h hs, f => by
    simp only [PyData.canLayAll0, Bool.and_eq_true] at f
    exact .cons (Dq.dp h f.1) (DqA.dp hs f.2)
end
theorem rd_eqD (h1 : SeqAt.shaped a = true) (h2 : SeqAt.shaped b = true) : RD K (rEqD K) a b (.bool (PyData.eqv a b)) := fun M H x y e dx dy Q q =>
  ⟨a, b, (dx.mono e).dp (SeqAt.canLay_of_shaped h1), (dy.mono e).dp (SeqAt.canLay_of_shaped h2), h1, h2, q _ M H (Gr.refl e) (.bl _)⟩
theorem rd_neD (h1 : SeqAt.shaped a = true) (h2 : SeqAt.shaped b = true) : RD K (rNeD K) a b (.bool (!PyData.eqv a b)) := fun M H x y e dx dy Q q =>
  ⟨a, b, (dx.mono e).dp (SeqAt.canLay_of_shaped h1), (dy.mono e).dp (SeqAt.canLay_of_shaped h2), h1, h2, q _ M H (Gr.refl e) (.bl _)⟩

/-! ### lists and tuples read -/
theorem DqA.atI {M : Hp} {vs : List V} {i : Int} (h : DqA K M vs ds) (e : L2.atI ds i = some d) : ∃ v, L2.atI vs i = some v ∧ Dq K M v d := by
  unfold L2.atI at e ⊢
  rw [h.length]
  cases q : ixN ds.length i with
  | none => rw [q] at e; cases e
  | some j =>
    rw [q] at e
    exact h.get (show ds[j]? = some d from e)
theorem rd_ixL {i : Int} (h : L2.atI ds i = some d) : RD K (rIxL K) (.list ds) (.int i) d := fun M H x y e dx dy Q q => by
  obtain ⟨p, xs, rfl, hp, hs⟩ := dx.lst_inv
  obtain ⟨v, h1, h2⟩ := hs.atI h
  exact ⟨p, xs, i, v, rfl, dy.int_inv, SqL.of (e _ _ hp), h1, q v M H (Gr.refl e) h2⟩
theorem rd_ixT {i : Int} (h : L2.atI ds i = some d) : RD K (rIxT K) (.tuple ds) (.int i) d := fun M H x y e dx dy Q q => by
  obtain ⟨p, xs, rfl, hp, hs⟩ := dx.tup_inv
  obtain ⟨v, h1, h2⟩ := hs.atI h
  exact ⟨p, xs, i, v, rfl, dy.int_inv, SqT.of (e _ _ hp), h1, q v M H (Gr.refl e) h2⟩
theorem atI_ofNat {α : Type} {xs : List α} {i : Int} {v : α} (h0 : 0 ≤ i) (h : xs[i.toNat]? = some v) : L2.atI xs i = some v := by
  have e : i = ((i.toNat : Nat) : Int) := by omega
  rw [e]
  exact atI_nat h
theorem ed_ixL {i : Int} (ha : ED K ta δ (.list ds)) (hb : ED K tb δ (.int i)) (h : L2.atI ds i = some d) : ED K (tOp (rIxL K) ta tb) δ d := ed_op ha hb (rd_ixL h)
theorem ed_ixT {i : Int} (ha : ED K ta δ (.tuple ds)) (hb : ED K tb δ (.int i)) (h : L2.atI ds i = some d) : ED K (tOp (rIxT K) ta tb) δ d := ed_op ha hb (rd_ixT h)
theorem rd_ixScr {ns : List Int} {i n : Int} (h : L2.atI ns i = some n) : RD K (rIxL K) (scrD ns) (.int i) (.int n) := fun M H x y e dx dy Q q => by
  obtain ⟨p, rfl, hp⟩ := dx.scr_inv
  have h2 : L2.atI (ns.map V.int) i = some (.int n) := by
    unfold L2.atI at h ⊢
    rw [List.length_map]
    cases z : ixN ns.length i with
    | none => rw [z] at h; cases h
    | some j =>
      rw [z] at h
      show (ns.map V.int)[j]? = some (.int n)
      rw [List.getElem?_map, show ns[j]? = some n from h]
      rfl
  exact ⟨p, _, i, _, rfl, dy.int_inv, Evl.ex_l e hp, h2, q _ M H (Gr.refl e) (.int n)⟩
/-- in -/
def flatD : PyData → Bool
  | .none => true
  | .bool _ => true
  | .int _ => true
  | .str _ => true
  | _ => false
theorem Dq.flat {M : Hp} {v : V} (h : Dq K M v d) (f : flatD d = true) : flatV v = true := by
  cases h with
  | non => rfl
  | bl b => rfl
  | int i => rfl
  | str x => rfl
  | lst _ _ => simp [flatD] at f
  | tup _ _ => simp [flatD] at f
  | scr _ => simp [flatD, scrD] at f
  | exc _ => simp [flatD, excD] at f
theorem inV_ints (i : Int) (ns : List Int) : inV (.int i) (ns.map V.int) = decide (i ∈ ns) := by
  induction ns with
  | nil => rfl
  | cons n r ih =>
    show (eqV (.int n) (.int i) || inV (.int i) (r.map V.int)) = _
    rw [ih]
    show ((n == i) || decide (i ∈ r)) = _
    by_cases h : n = i
    · subst h; simp
    · have h2 : ¬ i = n := fun q => h q.symm
      simp [h, h2]
theorem all_flat_ints (ns : List Int) : (ns.map V.int).all flatV = true := by
  induction ns with
  | nil => rfl
  | cons n r ih => simpa [flatV] using ih
theorem rd_inLI {i : Int} {ns : List Int} : RD K (rIn K false) (.int i) (.list (ns.map .int)) (.bool (decide (i ∈ ns))) := fun M H x y e dx dy Q q => by
  obtain ⟨p, xs, rfl, hp, hs⟩ := dy.lst_inv
  obtain rfl := hs.ints
  rw [dx.int_inv]
  refine ⟨p, _, rfl, .inl (SqL.of (e _ _ hp)), rfl, all_flat_ints ns, ?_⟩
  show Q (.bl (inV _ _)) H
  rw [inV_ints]
  exact q _ M H (Gr.refl e) (.bl _)
theorem rd_inTI {i : Int} {ns : List Int} : RD K (rIn K false) (.int i) (.tuple (ns.map .int)) (.bool (decide (i ∈ ns))) := fun M H x y e dx dy Q q => by
  obtain ⟨p, xs, rfl, hp, hs⟩ := dy.tup_inv
  obtain rfl := hs.ints
  rw [dx.int_inv]
  refine ⟨p, _, rfl, .inr (SqT.of (e _ _ hp)), rfl, all_flat_ints ns, ?_⟩
  show Q (.bl (inV _ _)) H
  rw [inV_ints]
  exact q _ M H (Gr.refl e) (.bl _)
/-! ### new lists by operators -/
theorem rf_cat (hl : ds.length + es.length ≤ 100000) : RF K rCat (.list ds) (.list es) (ds ++ es) := fun M H x y e dx dy Q q => by
  obtain ⟨p, xs, rfl, hp, hs⟩ := dx.lst_inv
  obtain ⟨p2, xs2, rfl, hp2, hs2⟩ := dy.lst_inv
  exact ⟨p, p2, xs, xs2, rfl, rfl, e _ _ hp, e _ _ hp2, Evl.sz_of (by rw [hs.length, hs2.length]; exact hl), fun l hl =>
    q l _ M _ (Gr.hid e hl) hl (ex_none e hl) upd_same (hs.append hs2)⟩
theorem ef_cat (ha : ED K ta δ (.list ds)) (hb : ED K tb δ (.list es)) (hl : ds.length + es.length ≤ 100000) : EF K (tOp rCat ta tb) δ (ds ++ es) := ef_op ha hb (rf_cat hl)
theorem rf_rep {k : Int} (hl : ds.length * k.toNat ≤ 100000) (h1 : -(2 ^ 63) ≤ k) (h2 : k < 2 ^ 63) : RF K rRep (.list ds) (.int k) (List.replicate k.toNat ds).flatten := fun M H x y e dx dy Q q => by
  obtain ⟨p, xs, rfl, hp, hs⟩ := dx.lst_inv
  exact ⟨p, k, xs, rfl, dy.int_inv, e _ _ hp, h1, h2, Evl.sz_of (by rw [hs.length]; exact hl), fun l hl =>
    q l _ M _ (Gr.hid e hl) hl (ex_none e hl) upd_same (hs.flatRep k.toNat)⟩
/-! ### slices -/
theorem eo_none : EO K tNoPart δ none := fun M H _ e _ Q q => q M H (Gr.refl e)
theorem eo_some {i : Int} (h : ED K te δ (.int i)) : EO K (tPart te) δ (some i) := fun M H σ e rr Q q => h M H σ e rr _ fun v M1 H1 g1 dv => ⟨i, dv.int_inv, q M1 H1 g1⟩
def cutD (ds : List PyData) (lo hi : Option Int) : List PyData := (ds.drop (HT.sIx ds.length 0 lo)).take (HT.sIx ds.length ds.length hi - HT.sIx ds.length 0 lo)
theorem DqA.cut {M : Hp} {xs : List V} (h : DqA K M xs ds) (lo hi : Option Int) : DqA K M (cutV xs lo hi) (cutD ds lo hi) := by
  unfold cutV cutD
  rw [h.length]
  exact (h.drop _).take _
theorem ef_slL {tl th : TO} {lo hi : Option Int} (h : ED K te δ (.list ds)) (h1 : EO K tl δ lo) (h2 : EO K th δ hi) : EF K (tSl (rSlL K) te tl th) δ (cutD ds lo hi) := fun M H σ e rr Q q =>
  h M H σ e rr _ fun v M1 H1 g1 dv => h1 M1 H1 σ g1.mh (rr.mono g1.mm) _ fun M2 H2 g2 => h2 M2 H2 σ g2.mh (rr.mono (g1.trans g2).mm) _ fun M3 H3 g3 => by
    obtain ⟨p, xs, rfl, hp, hs⟩ := dv.lst_inv
    refine ⟨p, xs, rfl, SqL.of (g3.hh _ _ (g2.hh _ _ (g1.mh _ _ hp))), fun l hl => ?_⟩
    exact q l _ M3 _ ((g1.trans g2).trans (g3.trans (Gr.hid g3.mh hl))) (Evl.fresh_back ((g1.trans g2).trans g3).hh hl) (ex_none g3.mh hl) upd_same ((hs.mono (g2.trans g3).mm).cut lo hi)
theorem ed_slT {tl th : TO} {lo hi : Option Int} (h : ED K te δ (.tuple ds)) (h1 : EO K tl δ lo) (h2 : EO K th δ hi) (hw : ¬ (HT.sIx ds.length 0 lo = 0 ∧ HT.sIx ds.length ds.length hi = ds.length)) : ED K (tSl (rSlT K) te tl th) δ (.tuple (cutD ds lo hi)) := fun M H σ e rr Q q =>
  h M H σ e rr _ fun v M1 H1 g1 dv => h1 M1 H1 σ g1.mh (rr.mono g1.mm) _ fun M2 H2 g2 => h2 M2 H2 σ g2.mh (rr.mono (g1.trans g2).mm) _ fun M3 H3 g3 => by
    obtain ⟨p, xs, rfl, hp, hs⟩ := dv.tup_inv
    refine ⟨p, xs, rfl, SqT.of (g3.hh _ _ (g2.hh _ _ (g1.mh _ _ hp))), by rw [hs.length]; exact hw, fun l hl => ?_⟩
    exact q (.ref l) (upd M3 l _) _ ((g1.trans g2).trans (g3.trans (Gr.new g3.mh hl))) (.tup upd_same (((hs.mono (g2.trans g3).mm).cut lo hi).mono (Evl.Ex.new (ex_none g3.mh hl))))
/-! ### built-ins -/
def rLen (K : Fg) : List V → Hp → VK → Prop := fun xs H Q => ∃ x n, xs = [x] ∧ LenV K x H n ∧ Q (.int n) H
theorem cd_lenL : CD K (rLen K) [.list ds] (.int ds.length) := fun M H vs e dv Q q => by
  obtain ⟨v, r, rfl, h1, h2⟩ := dv.cons_inv
  obtain rfl := h2.nil_inv
  obtain ⟨p, xs, rfl, hp, hs⟩ := h1.lst_inv
  exact ⟨_, xs.length, rfl, .inl ⟨xs, SqL.of (e _ _ hp), rfl⟩, q _ M H (Gr.refl e) (by rw [hs.length]; exact .int _)⟩
theorem cd_lenT : CD K (rLen K) [.tuple ds] (.int ds.length) := fun M H vs e dv Q q => by
  obtain ⟨v, r, rfl, h1, h2⟩ := dv.cons_inv
  obtain rfl := h2.nil_inv
  obtain ⟨p, xs, rfl, hp, hs⟩ := h1.tup_inv
  exact ⟨_, xs.length, rfl, .inr ⟨xs, SqT.of (e _ _ hp), rfl⟩, q _ M H (Gr.refl e) (by rw [hs.length]; exact .int _)⟩
theorem cd_lenScr {ns : List Int} : CD K (rLen K) [scrD ns] (.int ns.length) := fun M H vs e dv Q q => by
  obtain ⟨v, r, rfl, h1, h2⟩ := dv.cons_inv
  obtain rfl := h2.nil_inv
  obtain ⟨p, rfl, hp⟩ := h1.scr_inv
  exact ⟨_, (ns.map V.int).length, rfl, .inl ⟨_, Evl.ex_l e hp, rfl⟩, q _ M H (Gr.refl e) (by rw [List.length_map]; exact .int _)⟩
theorem cd_lenS {x : Str} (hx : x.length ≤ 100000) : CD K (rLen K) [.str x] (.int x.length) := fun M H vs e dv Q q => by
  obtain ⟨v, r, rfl, h1, h2⟩ := dv.cons_inv
  obtain rfl := h2.nil_inv
  obtain rfl := h1.str_inv
  exact ⟨_, x.length, rfl, ⟨Evl.sz_of hx, rfl⟩, q _ M H (Gr.refl e) (.int _)⟩
def rListOf (K : Fg) : List V → Hp → VK → Prop := fun xs H Q => ∃ p ys, xs = [.ref p] ∧ (SqL K H p ys ∨ SqT K H p ys) ∧ ∀ l, H l = none → Q (.ref l) (upd H l (.lst ys))
theorem cf_listL : CF K (rListOf K) [.list ds] ds := fun M H vs e dv Q q => by
  obtain ⟨v, r, rfl, h1, h2⟩ := dv.cons_inv
  obtain rfl := h2.nil_inv
  obtain ⟨p, xs, rfl, hp, hs⟩ := h1.lst_inv
  exact ⟨p, xs, rfl, .inl (SqL.of (e _ _ hp)), fun l hl => q l xs M _ (Gr.hid e hl) hl (ex_none e hl) upd_same hs⟩
theorem cd_sum {ns : List Int} : CD K (rSum K) [.list (ns.map .int)] (.int ns.sum) := fun M H vs e dv Q q => by
  obtain ⟨v, r, rfl, h1, h2⟩ := dv.cons_inv
  obtain rfl := h2.nil_inv
  obtain ⟨p, xs, rfl, hp, hs⟩ := h1.lst_inv
  exact ⟨p, ns, rfl, by rw [← hs.ints]; exact SqL.of (e _ _ hp), q _ M H (Gr.refl e) (.int _)⟩
theorem cd_all {ns : List Bool} : CD K (rAll K) [.list (ns.map .bool)] (.bool (ns.all id)) := fun M H vs e dv Q q => by
  obtain ⟨v, r, rfl, h1, h2⟩ := dv.cons_inv
  obtain rfl := h2.nil_inv
  obtain ⟨p, xs, rfl, hp, hs⟩ := h1.lst_inv
  exact ⟨p, ns, rfl, by rw [← hs.bls]; exact SqL.of (e _ _ hp), q _ M H (Gr.refl e) (.bl _)⟩
theorem cd_min {ns : List Int} {m : Int} (h0 : m ∈ ns) (hm : ∀ y ∈ ns, m ≤ y) : CD K (rMin K) [.list (ns.map .int)] (.int m) := fun M H vs e dv Q q => by
  obtain ⟨v, r, rfl, h1, h2⟩ := dv.cons_inv
  obtain rfl := h2.nil_inv
  obtain ⟨p, xs, rfl, hp, hs⟩ := h1.lst_inv
  refine ⟨p, ns, rfl, by rw [← hs.ints]; exact SqL.of (e _ _ hp), List.length_pos_of_mem h0, fun k hk hle => ?_⟩
  have : k = m := Int.le_antisymm (hle m h0) (hm k hk)
  subst this
  exact q _ M H (Gr.refl e) (.int _)
theorem ed_min2 {i j : Int} (ha : ED K ta δ (.int i)) (hb : ED K tb δ (.int j)) : ED K (tCB (fun xs H Q => ∃ i j, xs = [.int i, .int j] ∧ Q (.int (if j < i then j else i)) H) (tCons ta (tCons tb tNil))) δ (.int (if j < i then j else i)) :=
  ed_cb (ea_cons ha (ea_one hb)) fun M H vs e dv Q q => by
    obtain ⟨v, r, rfl, h1, h2⟩ := dv.cons_inv
    obtain ⟨v2, r2, rfl, h3, h4⟩ := h2.cons_inv
    obtain rfl := h4.nil_inv
    rw [h1.int_inv, h3.int_inv]
    exact ⟨i, j, rfl, q _ M H (Gr.refl e) (.int _)⟩
theorem ed_max2 {i j : Int} (ha : ED K ta δ (.int i)) (hb : ED K tb δ (.int j)) : ED K (tCB (fun xs H Q => ∃ i j, xs = [.int i, .int j] ∧ Q (.int (if j > i then j else i)) H) (tCons ta (tCons tb tNil))) δ (.int (if j > i then j else i)) :=
  ed_cb (ea_cons ha (ea_one hb)) fun M H vs e dv Q q => by
    obtain ⟨v, r, rfl, h1, h2⟩ := dv.cons_inv
    obtain ⟨v2, r2, rfl, h3, h4⟩ := h2.cons_inv
    obtain rfl := h4.nil_inv
    rw [h1.int_inv, h3.int_inv]
    exact ⟨i, j, rfl, q _ M H (Gr.refl e) (.int _)⟩
/-- list(range(n)) -/
def irg (lo hi : Int) : List Int := (List.range (hi - lo).toNat).map fun i => lo + (i : Nat)
theorem rgV_irg (lo hi : Int) : rgV lo hi = (irg lo hi).map V.int := by
  unfold rgV irg
  rw [List.map_map]
  rfl
theorem ef_listRg1 {n : Int} (h : ED K te δ (.int n)) (hn : 0 ≤ n ∧ n ≤ 100000) : EF K (tLstRg (tRg1 te)) δ ((irg 0 n).map .int) := fun M H σ e rr Q q =>
  h M H σ e rr _ fun v M1 H1 g1 dv => ⟨n, dv.int_inv, RgOk.of_le (Int.le_refl 0) (by omega) (by omega) hn.1, fun l hl => by
    rw [rgV_irg]
    exact q l _ M1 _ (g1.trans (Gr.hid g1.mh hl)) (Evl.fresh_back g1.hh hl) (ex_none g1.mh hl) upd_same DqA.of_ints⟩
theorem ef_listRg2 {m n : Int} (h0 : ED K ta δ (.int m)) (h : ED K te δ (.int n)) (hn : 0 ≤ m ∧ m ≤ 100000 ∧ 0 ≤ n ∧ n ≤ 100000) : EF K (tLstRg (tRg2 ta te)) δ ((irg m n).map .int) := fun M H σ e rr Q q =>
  h0 M H σ e rr _ fun v0 M0 H0 g0 dv0 => h M0 H0 σ g0.mh (rr.mono g0.mm) _ fun v M1 H1 g1 dv => ⟨m, n, dv0.int_inv, dv.int_inv, RgOk.of_le (by omega) (by omega) (by omega) (by omega), fun l hl => by
    rw [rgV_irg]
    exact q l _ M1 _ (g0.trans (g1.trans (Gr.hid g1.mh hl))) (Evl.fresh_back (g0.trans g1).hh hl) (ex_none g1.mh hl) upd_same DqA.of_ints⟩
/-- sorted -/
theorem cf_sorted {ns ms : List Int} (h1 : ms.Perm ns) (h2 : ms.Pairwise (· ≤ ·)) (uniq : ∀ l : List Int, l.Perm ns → l.Pairwise (· ≤ ·) → l = ms) : CF K (rSortedI K) [.list (ns.map .int)] (ms.map .int) := fun M H vs e dv Q q => by
  obtain ⟨v, r, rfl, h1, h2⟩ := dv.cons_inv
  obtain rfl := h2.nil_inv
  obtain ⟨p, xs, rfl, hp, hs⟩ := h1.lst_inv
  refine ⟨p, ns, rfl, by rw [← hs.ints]; exact SqL.of (e _ _ hp), fun ns' l hp' hs' hl => ?_⟩
  have := uniq ns' hp' hs'
  subst this
  exact q l _ M _ (Gr.hid e hl) hl (ex_none e hl) upd_same DqA.of_ints
/-- tuple(xs) -/
def rTupOf (K : Fg) : List V → Hp → VK → Prop := fun xs H Q => ∃ p ys, xs = [.ref p] ∧ ((SqL K H p ys ∧ ∀ l, H l = none → Q (.ref l) (upd H l (.tup ys))) ∨ (SqT K H p ys ∧ Q (.ref p) H))
theorem cd_tupL : CD K (rTupOf K) [.list ds] (.tuple ds) := fun M H vs e dv Q q => by
  obtain ⟨v, r, rfl, h1, h2⟩ := dv.cons_inv
  obtain rfl := h2.nil_inv
  obtain ⟨p, xs, rfl, hp, hs⟩ := h1.lst_inv
  exact ⟨p, xs, rfl, .inl ⟨SqL.of (e _ _ hp), fun l hl => q _ (upd M l _) _ (Gr.new e hl) (.tup upd_same (hs.mono (Evl.Ex.new (ex_none e hl))))⟩⟩
end

/-! ### comprehensions -/
section
variable {K : Fg} {δ : Dn} {tl te : TE} {tt : TT} {ta : TA} {α : Type} {enc : α → PyData} {xs : List α} {F : α → Bool} {G : α → PyData} {j : Nat}
theorem wipe_set (σ : L2.St) (j : Nat) (x : Option V) : L2.wipe ((L2.wipe σ [j]).set j x) [j] = L2.wipe σ [j] := by
  simp [L2.wipe]
theorem re_blk {M : Hp} {σ : L2.St} {v : V} {d : PyData} (r : Re K M σ δ) (h : Dq K M v d) : Re K M ((L2.wipe σ [j]).set j (some v)) (δ.set j (some d)) := by
  have := (r.wipe j).set j h
  rwa [List.set_set] at this
theorem filter_take_succ {xs : List α} {i : Nat} {x : α} (h : xs[i]? = some x) : (xs.take (i + 1)).filter F = (xs.take i).filter F ++ (if F x = true then [x] else []) := by
  rw [List.take_add_one, h, List.filter_append]
  simp only [Option.toList_some, List.filter_cons, List.filter_nil]
structure LcI (K : Fg) (M1 H1 : Hp) (D : Addr) (out : List PyData) (H' : Hp) : Prop where
  nD : H1 D = none
  ex : ∃ M' acc, Gr M1 H1 M' H' ∧ M' D = none ∧ H' D = some (.lst acc) ∧ DqA K M' acc out
theorem lc_turn {M1 H1 H' : Hp} {D : Addr} {σ : L2.St} {i : Nat} {x : α} {v : V} {T : Hp → Prop} (r : Re K M1 σ δ) (I : LcI K M1 H1 D (((xs.take i).filter F).map G) H') (hx : xs[i]? = some x) (hz : xs.length < 100000)
    (hv : ∀ M', Gr M1 H1 M' H' → Dq K M' v (enc x)) (ht : ET K tt (δ.set j (some (enc x))) (F x)) (he : F x = true → ED K te (δ.set j (some (enc x))) (G x))
    (hT : ∀ H'', LcI K M1 H1 D (((xs.take (i + 1)).filter F).map G) H'' → T H'') :
    tt ((L2.wipe σ [j]).set j (some v)) H' fun b H3 => if b = true then te ((L2.wipe σ [j]).set j (some v)) H3 fun y H4 => ∃ acc, H4 D = some (.lst acc) ∧ acc.length < sizeLine ∧ T (upd H4 D (.lst (acc ++ [y]))) else T H3 := by
  obtain ⟨nD, M', acc, g, mD, hD, da⟩ := I
  have r2 : Re K M' ((L2.wipe σ [j]).set j (some v)) (δ.set j (some (enc x))) := re_blk (r.mono g.mm) (hv M' g)
  refine ht M' H' _ g.mh r2 _ fun M2 H2 g2 => ?_
  cases hF : F x with
  | false =>
    show T H2
    refine hT H2 ⟨nD, M2, acc, g.trans g2, g2.nw D _ hD mD, g2.hh _ _ hD, ?_⟩
    rw [filter_take_succ hx, hF]
    simpa using da.mono g2.mm
  | true =>
    show te _ H2 _
    refine he hF M2 H2 _ g2.mh (r2.mono g2.mm) _ fun y M3 H3 g3 dy => ?_
    have g23 := g2.trans g3
    have mD3 : M3 D = none := g23.nw D _ hD mD
    refine ⟨acc, g23.hh _ _ hD, Evl.sz_lt ?_, hT _ ⟨nD, M3, acc ++ [y], ⟨(g.trans g23).mm, ex_updR (g.trans g23).hh nD, ex_updR g23.mh mD3, (g.trans g23).nw⟩, mD3, upd_same, ?_⟩⟩
    · rw [da.length, List.length_map]
      have h1 := List.length_filter_le F (xs.take i)
      have h2 : (xs.take i).length ≤ xs.length := by rw [List.length_take]; exact Nat.min_le_right _ _
      omega
    · rw [filter_take_succ hx, hF]
      simp only [if_true, List.map_append, List.map_cons, List.map_nil]
      exact (da.mono g23.mm).append (.cons dy .nil)
theorem lc_start {M1 H1 : Hp} {D : Addr} (e : Ex M1 H1) (h : H1 D = none) : LcI K M1 H1 D [] (upd H1 D (.lst [])) := ⟨h, M1, [], Gr.hid e h, ex_none e h, upd_same, .nil⟩
/-- [e for x in xs if t], xs a list of data -/
theorem ef_lc (src : ED K tl δ (.list (xs.map enc))) (hz : xs.length < 100000) (ht : ∀ x ∈ xs, ET K tt (δ.set j (some (enc x))) (F x)) (he : ∀ x ∈ xs, F x = true → ED K te (δ.set j (some (enc x))) (G x)) :
    EF K (tLc (iList K tl) (gName j) tt te [j]) δ ((xs.filter F).map G) := fun M H σ e rr Q q =>
  src M H σ e rr _ fun v M1 H1 g1 dv => by
    obtain ⟨p, vs, rfl, hp, hs⟩ := dv.lst_inv
    refine ⟨p, rfl, ⟨vs, SqL.of (g1.mh _ _ hp)⟩, fun D hD => ?_⟩
    have hl : vs.length = xs.length := by rw [hs.length, List.length_map]
    refine lc_list (xs := vs) (fun i H' => LcI K M1 H1 D (((xs.take i).filter F).map G) H') (lc_start g1.mh hD) (fun i H' _ I => ?_) (fun i x H' hx I => ?_) (fun H' I => ?_)
    · obtain ⟨_, M', acc, g, _⟩ := I
      exact SqL.of (g.mh _ _ (g.mm _ _ hp))
    · have hi : i < xs.length := by rw [← hl]; exact (List.getElem?_eq_some_iff.mp hx).1
      have hx' : xs[i]? = some xs[i] := List.getElem?_eq_getElem hi
      have hm : xs[i] ∈ xs := List.getElem_mem hi
      refine ⟨wipe_set σ j (some x), lc_turn (enc := enc) (rr.mono g1.mm) I hx' hz (fun M' g => ?_) (ht _ hm) (he _ hm) fun H'' I' => I'⟩
      obtain ⟨d, h1, h2⟩ := hs.getV hx
      rw [List.getElem?_map, hx'] at h1
      cases h1
      exact h2.mono g.mm
    · rw [hl, List.take_length] at I
      obtain ⟨_, M', acc, g, mD, hD', da⟩ := I
      exact q D acc M' H' (g1.trans g) (Evl.fresh_back g1.hh hD) mD hD' da
theorem ef_lc1 (src : ED K tl δ (.list (xs.map enc))) (hz : xs.length < 100000) (he : ∀ x ∈ xs, ED K te (δ.set j (some (enc x))) (G x)) :
    EF K (tLc (iList K tl) (gName j) tYes te [j]) δ (xs.map G) :=
  (ef_lc (F := fun _ => true) src hz (fun _ _ M H _ e _ Q q => q M H (Gr.refl e)) (fun x hx _ => he x hx)).is (by rw [List.filter_eq_self.mpr fun _ _ => rfl])
/-- .. xs a tuple -/
theorem ef_lcT (src : ED K tl δ (.tuple (xs.map enc))) (hz : xs.length < 100000) (ht : ∀ x ∈ xs, ET K tt (δ.set j (some (enc x))) (F x)) (he : ∀ x ∈ xs, F x = true → ED K te (δ.set j (some (enc x))) (G x)) :
    EF K (tLc (iTup K tl) (gName j) tt te [j]) δ ((xs.filter F).map G) := fun M H σ e rr Q q =>
  src M H σ e rr _ fun v M1 H1 g1 dv => by
    obtain ⟨p, vs, rfl, hp, hs⟩ := dv.tup_inv
    refine ⟨p, rfl, ⟨vs, SqT.of (g1.mh _ _ hp)⟩, fun D hD => ?_⟩
    have hl : vs.length = xs.length := by rw [hs.length, List.length_map]
    refine lc_tup (xs := vs) (fun i H' => LcI K M1 H1 D (((xs.take i).filter F).map G) H') (lc_start g1.mh hD) (fun i H' _ I => ?_) (fun i x H' hx I => ?_) (fun H' I => ?_)
    · obtain ⟨_, M', acc, g, _⟩ := I
      exact SqT.of (g.mh _ _ (g.mm _ _ hp))
    · have hi : i < xs.length := by rw [← hl]; exact (List.getElem?_eq_some_iff.mp hx).1
      have hx' : xs[i]? = some xs[i] := List.getElem?_eq_getElem hi
      have hm : xs[i] ∈ xs := List.getElem_mem hi
      refine ⟨wipe_set σ j (some x), lc_turn (enc := enc) (rr.mono g1.mm) I hx' hz (fun M' g => ?_) (ht _ hm) (he _ hm) fun H'' I' => I'⟩
      obtain ⟨d, h1, h2⟩ := hs.getV hx
      rw [List.getElem?_map, hx'] at h1
      cases h1
      exact h2.mono g.mm
    · rw [hl, List.take_length] at I
      obtain ⟨_, M', acc, g, mD, hD', da⟩ := I
      exact q D acc M' H' (g1.trans g) (Evl.fresh_back g1.hh hD) mD hD' da
theorem ef_lcT1 (src : ED K tl δ (.tuple (xs.map enc))) (hz : xs.length < 100000) (he : ∀ x ∈ xs, ED K te (δ.set j (some (enc x))) (G x)) :
    EF K (tLc (iTup K tl) (gName j) tYes te [j]) δ (xs.map G) :=
  (ef_lcT (F := fun _ => true) src hz (fun _ _ M H _ e _ Q q => q M H (Gr.refl e)) (fun x hx _ => he x hx)).is (by rw [List.filter_eq_self.mpr fun _ _ => rfl])
theorem irg_length (lo hi : Int) : (irg lo hi).length = (hi - lo).toNat := by simp [irg]
theorem irg_get {lo hi : Int} {i : Nat} (h : i < (hi - lo).toNat) : (irg lo hi)[i]? = some (lo + (i : Nat)) := by
  unfold irg
  rw [List.getElem?_map, List.getElem?_range h]
  rfl
theorem mem_irg {lo hi x : Int} : x ∈ irg lo hi ↔ lo ≤ x ∧ x < hi := by
  unfold irg
  simp only [List.mem_map, List.mem_range]
  constructor
  · rintro ⟨a, h, rfl⟩
    omega
  · intro h
    exact ⟨(x - lo).toNat, by omega, by omega⟩
theorem ef_lcR {lo hi : Int} {wi : TI} {F : Int → Bool} {G : Int → PyData} (hwi : ∀ M H σ, Ex M H → Re K M σ δ → ∀ R : It → Hp → Prop, (∀ M2 H2, Gr M H M2 H2 → R (Itr lo (hi - lo).toNat) H2) → wi σ H R) (hz : hi - lo < 100000)
    (ht : ∀ x ∈ irg lo hi, ET K tt (δ.set j (some (.int x))) (F x)) (he : ∀ x ∈ irg lo hi, F x = true → ED K te (δ.set j (some (.int x))) (G x)) :
    EF K (tLc wi (gName j) tt te [j]) δ (((irg lo hi).filter F).map G) := fun M H σ e rr Q q =>
  hwi M H σ e rr _ fun M1 H1 g1 D hD => by
    refine lc_range (lo := lo) (n := (hi - lo).toNat) (fun i H' => LcI K M1 H1 D ((((irg lo hi).take i).filter F).map G) H') (lc_start g1.mh hD) (fun i H' hi' I => ?_) (fun H' I => ?_)
    · have hm : lo + (i : Nat) ∈ irg lo hi := mem_irg.mpr ⟨by omega, by omega⟩
      exact ⟨wipe_set σ j _, lc_turn (enc := PyData.int) (rr.mono g1.mm) I (irg_get hi') (by rw [irg_length]; omega) (fun M' g => .int _) (ht _ hm) (he _ hm) fun H'' I' => I'⟩
    · rw [← irg_length lo hi, List.take_length] at I
      obtain ⟨_, M', acc, g, mD, hD', da⟩ := I
      exact q D acc M' H' (g1.trans g) (Evl.fresh_back g1.hh hD) mD hD' da
theorem wi_rng1 {n : Int} (h : EA K ta δ [.int n]) (hn : -100000 ≤ n ∧ n < 100000) : ∀ M H σ, Ex M H → Re K M σ δ → ∀ R : It → Hp → Prop, (∀ M2 H2, Gr M H M2 H2 → R (Itr 0 (n - 0).toNat) H2) → iRng1 ta σ H R := fun M H σ e rr R q =>
  h M H σ e rr _ fun vs M1 H1 g1 dv => by
    obtain ⟨v, r, rfl, h1, h2⟩ := dv.cons_inv
    obtain rfl := h2.nil_inv
    rw [h1.int_inv]
    refine ⟨n, rfl, by omega, by omega, ?_⟩
    have := q M1 H1 g1
    rwa [Int.sub_zero] at this
theorem wi_rng2 {m n : Int} (h : EA K ta δ [.int m, .int n]) (hn : -100000 ≤ m ∧ m < 100000 ∧ -100000 ≤ n ∧ n < 100000) : ∀ M H σ, Ex M H → Re K M σ δ → ∀ R : It → Hp → Prop, (∀ M2 H2, Gr M H M2 H2 → R (Itr m (n - m).toNat) H2) → iRng2 ta σ H R := fun M H σ e rr R q =>
  h M H σ e rr _ fun vs M1 H1 g1 dv => by
    obtain ⟨v, r, rfl, h1, h2⟩ := dv.cons_inv
    obtain ⟨v2, r2, rfl, h3, h4⟩ := h2.cons_inv
    obtain rfl := h4.nil_inv
    rw [h1.int_inv, h3.int_inv]
    exact ⟨m, n, rfl, ⟨by omega, by omega, by omega, by omega⟩, q M1 H1 g1⟩
theorem ef_lcR1 {n : Int} {F : Int → Bool} {G : Int → PyData} (h : EA K ta δ [.int n]) (hn : -100000 ≤ n ∧ n < 100000) (ht : ∀ x ∈ irg 0 n, ET K tt (δ.set j (some (.int x))) (F x)) (he : ∀ x ∈ irg 0 n, F x = true → ED K te (δ.set j (some (.int x))) (G x)) :
    EF K (tLc (iRng1 ta) (gName j) tt te [j]) δ (((irg 0 n).filter F).map G) := ef_lcR (wi_rng1 h hn) (by omega) ht he
theorem ef_lcR1' {n : Int} {G : Int → PyData} (h : EA K ta δ [.int n]) (hn : -100000 ≤ n ∧ n < 100000) (he : ∀ x ∈ irg 0 n, ED K te (δ.set j (some (.int x))) (G x)) :
    EF K (tLc (iRng1 ta) (gName j) tYes te [j]) δ ((irg 0 n).map G) :=
  (ef_lcR1 (F := fun _ => true) h hn (fun _ _ M H _ e _ Q q => q M H (Gr.refl e)) (fun x hx _ => he x hx)).is (by rw [List.filter_eq_self.mpr fun _ _ => rfl])
theorem ef_lcR2 {m n : Int} {F : Int → Bool} {G : Int → PyData} (h : EA K ta δ [.int m, .int n]) (hn : -100000 ≤ m ∧ m < 50000 ∧ -100000 ≤ n ∧ n < 50000) (hz : n - m < 100000) (ht : ∀ x ∈ irg m n, ET K tt (δ.set j (some (.int x))) (F x)) (he : ∀ x ∈ irg m n, F x = true → ED K te (δ.set j (some (.int x))) (G x)) :
    EF K (tLc (iRng2 ta) (gName j) tt te [j]) δ (((irg m n).filter F).map G) := ef_lcR (wi_rng2 h (by omega)) hz ht he
end
end U

namespace U
open PySem PySem.Spec PyProof.Rows L2

/-- a slot: unknown, a datum, an own list (that may be changed) -/
inductive Sl where
  | u | d (x : PyData) | o (ds : List PyData)
def Sl.down : Sl → Option PyData
  | .u => none | .d x => some x | .o ds => some (.list ds)
def Sl.hide : Sl → Option PyData
  | .u => none | .d x => some x | .o _ => none
inductive Ret where
  | val (d : PyData) | new (ds : List PyData) | exc (C : Addr)
structure DE where
  nx : List Sl → Prop
  rt : Ret → Prop
  bk : List Sl → Prop := fun _ => False
  ct : List Sl → Prop := fun _ => False

structure Rs (K : Fg) (M0 H0 M H : Hp) (σ : L2.St) (ρ : List Sl) : Prop where
  gr : Gr M0 H0 M H
  len : σ.length = ρ.length
  dat : ∀ (i : Nat) (d : PyData), ρ[i]? = some (.d d) → ∃ v, σ[i]? = some (some v) ∧ Dq K M v d
  own : ∀ (i : Nat) (ds : List PyData), ρ[i]? = some (.o ds) → ∃ p xs, σ[i]? = some (some (.ref p)) ∧ H0 p = none ∧ M p = none ∧ H p = some (.lst xs) ∧ DqA K M xs ds
  dis : ∀ (i j : Nat) (p : Addr) (ds es : List PyData), i ≠ j → ρ[i]? = some (.o ds) → ρ[j]? = some (.o es) → σ[i]? = some (some (.ref p)) → σ[j]? = some (some (.ref p)) → False

section
variable {K : Fg} {M0 H0 M H M1 H1 : Hp} {σ : L2.St} {ρ : List Sl}
theorem Rs.grow (r : Rs K M0 H0 M H σ ρ) (g : Gr M H M1 H1) : Rs K M0 H0 M1 H1 σ ρ where
  gr := r.gr.trans g
  len := r.len
  dat := fun i d h => let ⟨v, h1, h2⟩ := r.dat i d h; ⟨v, h1, h2.mono g.mm⟩
  own := fun i ds h => let ⟨p, xs, h1, h2, h3, h4, h5⟩ := r.own i ds h; ⟨p, xs, h1, h2, g.nw _ _ h4 h3, g.hh _ _ h4, h5.mono g.mm⟩
  dis := r.dis
theorem get_set_cases {α : Type} {l : List α} {i j : Nat} {x y : α} (h : (l.set j x)[i]? = some y) : (i = j ∧ y = x ∧ j < l.length) ∨ (i ≠ j ∧ l[i]? = some y) := by
  by_cases e : j = i
  · subst e
    by_cases hl : j < l.length
    · rw [List.getElem?_set_self hl] at h
      exact .inl ⟨rfl, (Option.some.inj h).symm, hl⟩
    · rw [List.getElem?_eq_none (by simpa using hl)] at h
      cases h
  · rw [List.getElem?_set_ne e] at h
    exact .inr ⟨fun z => e z.symm, h⟩
theorem Rs.setD {v : V} {d : PyData} (r : Rs K M0 H0 M H σ ρ) (j : Nat) (hv : Dq K M v d) : Rs K M0 H0 M H (σ.set j (some v)) (ρ.set j (.d d)) where
  gr := r.gr
  len := by simp [r.len]
  dat := fun i d' h => by
    rcases get_set_cases h with ⟨rfl, e, hl⟩ | ⟨ne, h⟩
    · cases e
      exact ⟨v, by rw [List.getElem?_set_self (by rw [r.len]; exact hl)], hv⟩
    · obtain ⟨u, h1, h2⟩ := r.dat i d' h
      exact ⟨u, by rw [List.getElem?_set_ne ne.symm]; exact h1, h2⟩
  own := fun i ds h => by
    rcases get_set_cases h with ⟨rfl, e, hl⟩ | ⟨ne, h⟩
    · cases e
    · obtain ⟨p, xs, h1, h2⟩ := r.own i ds h
      exact ⟨p, xs, by rw [List.getElem?_set_ne ne.symm]; exact h1, h2⟩
  dis := fun i k p ds es ne h1 h2 h3 h4 => by
    rcases get_set_cases h1 with ⟨rfl, e, hl⟩ | ⟨ne1, h1⟩
    · cases e
    rcases get_set_cases h2 with ⟨rfl, e, hl⟩ | ⟨ne2, h2⟩
    · cases e
    rw [List.getElem?_set_ne ne1.symm] at h3
    rw [List.getElem?_set_ne ne2.symm] at h4
    exact r.dis i k p ds es ne h1 h2 h3 h4
theorem Rs.setO {p : Addr} {xs : List V} {ds : List PyData} (r : Rs K M0 H0 M H σ ρ) (j : Nat) (n0 : H0 p = none) (nM : M p = none) (hp : H p = some (.lst xs)) (hx : DqA K M xs ds)
    (ne : ∀ (i : Nat) (es : List PyData), i ≠ j → ρ[i]? = some (.o es) → σ[i]? ≠ some (some (.ref p))) : Rs K M0 H0 M H (σ.set j (some (.ref p))) (ρ.set j (.o ds)) where
  gr := r.gr
  len := by simp [r.len]
  dat := fun i d' h => by
    rcases get_set_cases h with ⟨rfl, e, hl⟩ | ⟨ne, h⟩
    · cases e
    · obtain ⟨u, h1, h2⟩ := r.dat i d' h
      exact ⟨u, by rw [List.getElem?_set_ne ne.symm]; exact h1, h2⟩
  own := fun i es h => by
    rcases get_set_cases h with ⟨rfl, e, hl⟩ | ⟨ne, h⟩
    · cases e
      exact ⟨p, xs, by rw [List.getElem?_set_self (by rw [r.len]; exact hl)], n0, nM, hp, hx⟩
    · obtain ⟨q, ys, h1, h2⟩ := r.own i es h
      exact ⟨q, ys, by rw [List.getElem?_set_ne ne.symm]; exact h1, h2⟩
  dis := fun i k q es fs nik h1 h2 h3 h4 => by
    rcases get_set_cases h1 with ⟨rfl, e, hl⟩ | ⟨ne1, h1'⟩
    · rcases get_set_cases h2 with ⟨rfl, e2, hl2⟩ | ⟨ne2, h2'⟩
      · exact nik rfl
      · rw [List.getElem?_set_self (by rw [r.len]; exact hl)] at h3
        cases h3
        rw [List.getElem?_set_ne ne2.symm] at h4
        exact ne k fs ne2 h2' h4
    · rw [List.getElem?_set_ne ne1.symm] at h3
      rcases get_set_cases h2 with ⟨rfl, e2, hl2⟩ | ⟨ne2, h2'⟩
      · rw [List.getElem?_set_self (by rw [r.len]; exact hl2)] at h4
        cases h4
        exact ne i es ne1 h1' h3
      · rw [List.getElem?_set_ne ne2.symm] at h4
        exact r.dis i k q es fs nik h1' h2' h3 h4
/-- a new list differs from the own ones -/
theorem Rs.fresh_ne {p : Addr} (r : Rs K M0 H0 M H σ ρ) (hp : H p = none) (i : Nat) (es : List PyData) (h : ρ[i]? = some (.o es)) : σ[i]? ≠ some (some (.ref p)) := fun e => by
  obtain ⟨q, ys, h1, _, _, h4, _⟩ := r.own i es h
  rw [h1] at e
  cases e
  rw [hp] at h4
  cases h4
/-- an own list is changed -/
theorem Rs.mut {p : Addr} {xs ys : List V} {i : Nat} {ds es : List PyData} (r : Rs K M0 H0 M H σ ρ) (hi : ρ[i]? = some (.o ds)) (hs : σ[i]? = some (some (.ref p))) (hy : DqA K M ys es) :
    Rs K M0 H0 M (upd H p (.lst ys)) σ (ρ.set i (.o es)) := by
  obtain ⟨q, zs, h1, h2, h3, h4, h5⟩ := r.own i ds hi
  rw [hs] at h1
  cases h1
  refine ⟨⟨r.gr.mm, ex_updR r.gr.hh h2, ex_updR r.gr.mh h3, r.gr.nw⟩, by simp [r.len], fun j d h => ?_, fun j fs h => ?_, fun j k q' d1 d2 njk g1 g2 g3 g4 => ?_⟩
  · rcases get_set_cases h with ⟨rfl, e, hl⟩ | ⟨ne, h⟩
    · cases e
    · exact r.dat j d h
  · rcases get_set_cases h with ⟨rfl, e, hl⟩ | ⟨ne, h⟩
    · cases e
      exact ⟨p, ys, hs, h2, h3, upd_same, hy⟩
    · obtain ⟨q', ys', k1, k2, k3, k4, k5⟩ := r.own j fs h
      have npq : q' ≠ p := fun e => by
        subst e
        exact r.dis j i q' fs ds ne h hi k1 hs
      exact ⟨q', ys', k1, k2, k3, by rw [upd_ne npq]; exact k4, k5⟩
  · rcases get_set_cases g1 with ⟨rfl, e, hl⟩ | ⟨ne1, g1'⟩
    · rcases get_set_cases g2 with ⟨rfl, e2, hl2⟩ | ⟨ne2, g2'⟩
      · exact njk rfl
      · exact r.dis j k q' ds d2 njk hi g2' g3 g4
    · rcases get_set_cases g2 with ⟨rfl, e2, hl2⟩ | ⟨ne2, g2'⟩
      · exact r.dis j k q' d1 ds njk g1' hi g3 g4
      · exact r.dis j k q' d1 d2 njk g1' g2' g3 g4
/-- a slot forgotten: an own list becomes a datum -/
theorem Rs.reH (r : Rs K M0 H0 M H σ ρ) : Re K M σ (ρ.map Sl.hide) where
  len := by simp [r.len]
  at_ := fun i d h => by
    rw [List.getElem?_map] at h
    cases e : ρ[i]? with
    | none => rw [e] at h; cases h
    | some s =>
      rw [e] at h
      cases s with
      | u => cases h
      | o ds => cases h
      | d x =>
        have : x = d := Option.some.inj (Option.some.inj h)
        subst this
        exact r.dat i x e
def Own (σ : L2.St) (ρ : List Sl) (a : Addr) : Prop := ∃ (i : Nat) (ds : List PyData), ρ[i]? = some (Sl.o ds) ∧ σ[i]? = some (some (V.ref a))
open Classical in
/-- the own lists among the data -/
noncomputable def rev (σ : L2.St) (ρ : List Sl) (M H : Hp) : Hp := fun a => if Own σ ρ a then H a else M a
open Classical in
noncomputable def cov (σ : L2.St) (ρ : List Sl) (M : Hp) : Hp := fun a => if Own σ ρ a then none else M a
theorem Rs.ownM (r : Rs K M0 H0 M H σ ρ) {a : Addr} (h : Own σ ρ a) : H0 a = none ∧ M a = none ∧ ∃ xs, H a = some (.lst xs) := by
  obtain ⟨i, ds, h1, h2⟩ := h
  obtain ⟨p, xs, g1, g2, g3, g4, _⟩ := r.own i ds h1
  rw [h2] at g1
  cases g1
  exact ⟨g2, g3, xs, g4⟩
theorem Rs.exRev (r : Rs K M0 H0 M H σ ρ) : Ex M (rev σ ρ M H) := fun a o h => by
  unfold rev
  by_cases ha : Own σ ρ a
  · have := (r.ownM ha).2.1
    rw [h] at this
    cases this
  · rw [if_neg ha]; exact h
theorem Rs.revH (r : Rs K M0 H0 M H σ ρ) : Ex (rev σ ρ M H) H := fun a o h => by
  unfold rev at h
  by_cases ha : Own σ ρ a
  · rw [if_pos ha] at h; exact h
  · rw [if_neg ha] at h; exact r.gr.mh a o h
theorem Rs.grRev (r : Rs K M0 H0 M H σ ρ) : Gr M0 H0 (rev σ ρ M H) H where
  mm := r.gr.mm.trans r.exRev
  hh := r.gr.hh
  mh := r.revH
  nw := fun a o h n => by
    unfold rev
    by_cases ha : Own σ ρ a
    · have := (r.ownM ha).1
      rw [h] at this
      cases this
    · rw [if_neg ha]; exact r.gr.nw a o h n
theorem Rs.reD (r : Rs K M0 H0 M H σ ρ) : Re K (rev σ ρ M H) σ (ρ.map Sl.down) where
  len := by simp [r.len]
  at_ := fun i d h => by
    rw [List.getElem?_map] at h
    cases e : ρ[i]? with
    | none => rw [e] at h; cases h
    | some s =>
      rw [e] at h
      cases s with
      | u => cases h
      | o ds =>
        have : PyData.list ds = d := Option.some.inj (Option.some.inj h)
        subst this
        obtain ⟨p, xs, h1, h2, h3, h4, h5⟩ := r.own i ds e
        refine ⟨.ref p, h1, .lst ?_ (h5.mono r.exRev)⟩
        unfold rev
        rw [if_pos ⟨i, ds, e, h1⟩]
        exact h4
      | d x =>
        have : x = d := Option.some.inj (Option.some.inj h)
        subst this
        obtain ⟨v, h1, h2⟩ := r.dat i x e
        exact ⟨v, h1, h2.mono r.exRev⟩
theorem Rs.covGr (r : Rs K M0 H0 M H σ ρ) (g : Gr (rev σ ρ M H) H M1 H1) : Gr M H (cov σ ρ M1) H1 where
  mm := fun a o h => by
    unfold cov
    by_cases ha : Own σ ρ a
    · have := (r.ownM ha).2.1
      rw [h] at this
      cases this
    · rw [if_neg ha]; exact g.mm a o (r.exRev a o h)
  hh := g.hh
  mh := fun a o h => by
    unfold cov at h
    by_cases ha : Own σ ρ a
    · rw [if_pos ha] at h; cases h
    · rw [if_neg ha] at h; exact g.mh a o h
  nw := fun a o h n => by
    unfold cov
    by_cases ha : Own σ ρ a
    · rw [if_pos ha]
    · rw [if_neg ha]
      refine g.nw a o h ?_
      unfold rev
      rw [if_neg ha]; exact n
theorem Rs.covTk (r : Rs K M0 H0 M H σ ρ) (g : Gr (rev σ ρ M H) H M1 H1) : Tk M1 (cov σ ρ M1) := fun a xs h => by
  unfold cov
  by_cases ha : Own σ ρ a
  · obtain ⟨_, _, ys, hy⟩ := r.ownM ha
    have e1 := g.hh a _ hy
    have e2 := g.mh a _ h
    rw [e1] at e2
    cases e2
  · rw [if_neg ha]; exact h
theorem cov_none {a : Addr} (h : M1 a = none) : cov σ ρ M1 a = none := by
  unfold cov
  by_cases ha : Own σ ρ a
  · rw [if_pos ha]
  · rw [if_neg ha]; exact h
end

/-! ### expressions at a slot list -/
def EDS (K : Fg) (te : TE) (ρ : List Sl) (d : PyData) : Prop := ∀ M0 H0 M H σ, Rs K M0 H0 M H σ ρ → ∀ Q : VK, (∀ v M2 H2, Gr M H M2 H2 → Dq K M2 v d → Q v H2) → te σ H Q
def EFS (K : Fg) (te : TE) (ρ : List Sl) (ds : List PyData) : Prop := ∀ M0 H0 M H σ, Rs K M0 H0 M H σ ρ → ∀ Q : VK,
  (∀ p xs M2 H2, Gr M H M2 H2 → H p = none → M2 p = none → H2 p = some (.lst xs) → DqA K M2 xs ds → Q (.ref p) H2) → te σ H Q
def EAS (K : Fg) (ta : TA) (ρ : List Sl) (ds : List PyData) : Prop := ∀ M0 H0 M H σ, Rs K M0 H0 M H σ ρ → ∀ Q : List V → Hp → Prop, (∀ vs M2 H2, Gr M H M2 H2 → DqA K M2 vs ds → Q vs H2) → ta σ H Q
def ETS (K : Fg) (tt : TT) (ρ : List Sl) (b : Bool) : Prop := ∀ M0 H0 M H σ, Rs K M0 H0 M H σ ρ → ∀ Q : Bool → Hp → Prop, (∀ M2 H2, Gr M H M2 H2 → Q b H2) → tt σ H Q
section
variable {K : Fg} {te : TE} {tt : TT} {ta : TA} {ρ : List Sl} {d : PyData} {ds : List PyData} {b : Bool}
/-- no own list is looked at -/
theorem eds_h (h : ED K te (ρ.map Sl.hide) d) : EDS K te ρ d := fun M0 H0 M H σ r Q q => h M H σ r.gr.mh r.reH Q q
theorem efs_h (h : EF K te (ρ.map Sl.hide) ds) : EFS K te ρ ds := fun M0 H0 M H σ r Q q => h M H σ r.gr.mh r.reH Q q
theorem eas_h (h : EA K ta (ρ.map Sl.hide) ds) : EAS K ta ρ ds := fun M0 H0 M H σ r Q q => h M H σ r.gr.mh r.reH Q q
/-- own lists are looked at, what is told is frozen -/
theorem eds_f (h : ED K te (ρ.map Sl.down) d) (f : fz d = true) : EDS K te ρ d := fun M0 H0 M H σ r Q q =>
  h _ H σ r.revH r.reD Q fun v M2 H2 g dv => q v _ H2 (r.covGr g) (dv.frz (r.covTk g) f)
theorem efs_f (h : EF K te (ρ.map Sl.down) ds) (f : fzA ds = true) : EFS K te ρ ds := fun M0 H0 M H σ r Q q =>
  h _ H σ r.revH r.reD Q fun p xs M2 H2 g n1 n2 hp dv => q p xs _ H2 (r.covGr g) n1 (cov_none n2) hp (dv.frz (r.covTk g) f)
theorem eas_f (h : EA K ta (ρ.map Sl.down) ds) (f : fzA ds = true) : EAS K ta ρ ds := fun M0 H0 M H σ r Q q =>
  h _ H σ r.revH r.reD Q fun v M2 H2 g dv => q v _ H2 (r.covGr g) (dv.frz (r.covTk g) f)
theorem ets (h : ET K tt (ρ.map Sl.down) b) : ETS K tt ρ b := fun M0 H0 M H σ r Q q =>
  h _ H σ r.revH r.reD Q fun M2 H2 g => q _ H2 (r.covGr g)
end

/-! ### statements -/
structure Ok (K : Fg) (M0 H0 M : Hp) (E : DE) (D : Ends) : Prop where
  nx : ∀ ρ σ M' H', Ex M M' → Rs K M0 H0 M' H' σ ρ → E.nx ρ → D.nx σ H'
  bk : ∀ ρ σ M' H', Ex M M' → Rs K M0 H0 M' H' σ ρ → E.bk ρ → D.bk σ H'
  ct : ∀ ρ σ M' H', Ex M M' → Rs K M0 H0 M' H' σ ρ → E.ct ρ → D.ct σ H'
  rv : ∀ d, E.rt (.val d) → ∀ v M' H', Gr M0 H0 M' H' → Dq K M' v d → D.rt v H'
  rn : ∀ ds, E.rt (.new ds) → ∀ p xs M' H', Gr M0 H0 M' H' → H0 p = none → M' p = none → H' p = some (.lst xs) → DqA K M' xs ds → D.rt (.ref p) H'
theorem Ok.mono {K : Fg} {M0 H0 M M1 : Hp} {E : DE} {D : Ends} (o : Ok K M0 H0 M E D) (e : Ex M M1) : Ok K M0 H0 M1 E D :=
  ⟨fun ρ σ M' H' e' => o.nx ρ σ M' H' (e.trans e'), fun ρ σ M' H' e' => o.bk ρ σ M' H' (e.trans e'), fun ρ σ M' H' e' => o.ct ρ σ M' H' (e.trans e'), o.rv, o.rn⟩
def SD (K : Fg) (M0 H0 : Hp) (ts : TS) (ρ : List Sl) (E : DE) : Prop := ∀ M H σ D, Rs K M0 H0 M H σ ρ → Ok K M0 H0 M E D → ts D σ H

section
variable {K : Fg} {M0 H0 : Hp} {t u : TS} {te : TE} {tt : TT} {ta : TA} {ρ : List Sl} {E : DE} {d a b : PyData} {ds es : List PyData} {i j : Nat}
theorem sd_next (k : E.nx ρ) : SD K M0 H0 tNext ρ E := fun M H σ D r o => o.nx ρ σ M H (Ex.refl _) r k
theorem sd_brk (k : E.bk ρ) : SD K M0 H0 tBreak ρ E := fun M H σ D r o => o.bk ρ σ M H (Ex.refl _) r k
theorem sd_cont (k : E.ct ρ) : SD K M0 H0 tCont ρ E := fun M H σ D r o => o.ct ρ σ M H (Ex.refl _) r k
theorem sd_seq (h : SD K M0 H0 t ρ { E with nx := fun ρ' => SD K M0 H0 u ρ' E }) : SD K M0 H0 (tSeq t u) ρ E := fun M H σ D r o =>
  h M H σ { D with nx := u D } r ⟨fun ρ' σ' M' H' e r' hu => hu M' H' σ' D r' (o.mono e), o.bk, o.ct, o.rv, o.rn⟩
theorem sd_imp {E' : DE} (h : SD K M0 H0 t ρ E') (hn : ∀ ρ', E'.nx ρ' → E.nx ρ') (hr : ∀ r, E'.rt r → E.rt r) (hb : ∀ ρ', E'.bk ρ' → E.bk ρ') (hc : ∀ ρ', E'.ct ρ' → E.ct ρ') : SD K M0 H0 t ρ E := fun M H σ D r o =>
  h M H σ D r ⟨fun ρ' σ' M' H' e r' k => o.nx ρ' σ' M' H' e r' (hn _ k), fun ρ' σ' M' H' e r' k => o.bk ρ' σ' M' H' e r' (hb _ k), fun ρ' σ' M' H' e r' k => o.ct ρ' σ' M' H' e r' (hc _ k), fun d k => o.rv d (hr _ k), fun d k => o.rn d (hr _ k)⟩
theorem sd_cut (R : List Sl → Prop) (h : SD K M0 H0 t ρ { E with nx := R }) (k : ∀ ρ', R ρ' → SD K M0 H0 u ρ' E) : SD K M0 H0 (tSeq t u) ρ E := fun M H σ D r o =>
  h M H σ { D with nx := u D } r ⟨fun ρ' σ' M' H' e r' hu => k ρ' hu M' H' σ' D r' (o.mono e), o.bk, o.ct, o.rv, o.rn⟩
theorem sd_asg (h : EDS K te ρ d) (k : E.nx (ρ.set i (.d d))) : SD K M0 H0 (tAsg te (gName i)) ρ E := fun M H σ D r o =>
  h M0 H0 M H σ r _ fun v M1 H1 g dv => o.nx _ _ M1 H1 g.mm ((r.grow g).setD i dv) k
theorem sd_asgO (h : EFS K te ρ ds) (k : E.nx (ρ.set i (.o ds))) : SD K M0 H0 (tAsg te (gName i)) ρ E := fun M H σ D r o =>
  h M0 H0 M H σ r _ fun p xs M1 H1 g n1 n2 hp dv => o.nx _ _ M1 H1 g.mm ((r.grow g).setO i (Evl.fresh_back r.gr.hh n1) n2 hp dv fun m es _ hm => r.fresh_ne n1 m es hm) k
theorem sd_if {c : Bool} (h : ETS K tt ρ c) (h1 : c = true → SD K M0 H0 t ρ E) (h2 : c = false → SD K M0 H0 u ρ E) : SD K M0 H0 (tIfS tt t u) ρ E := fun M H σ D r o =>
  h M0 H0 M H σ r _ fun M1 H1 g => by
    cases c with
    | true =>
      show t D σ H1
      exact h1 rfl M1 H1 σ D (r.grow g) (o.mono g.mm)
    | false =>
      show u D σ H1
      exact h2 rfl M1 H1 σ D (r.grow g) (o.mono g.mm)
theorem sd_ret (h : ED K te (ρ.map Sl.down) d) (k : E.rt (.val d)) : SD K M0 H0 (tRet te) ρ E := fun M H σ D r o =>
  h _ H σ r.revH r.reD _ fun v M1 H1 g dv => o.rv d k v M1 H1 (r.grRev.trans g) dv
theorem sd_retF (h : EF K te (ρ.map Sl.down) ds) (k : E.rt (.new ds)) : SD K M0 H0 (tRet te) ρ E := fun M H σ D r o =>
  h _ H σ r.revH r.reD _ fun p xs M1 H1 g n1 n2 hp dv => o.rn ds k p xs M1 H1 (r.grRev.trans g) (Evl.fresh_back r.gr.hh n1) n2 hp dv
theorem sd_retO (h : ρ[i]? = some (.o ds)) (k : E.rt (.new ds)) : SD K M0 H0 (tRet (tVar i)) ρ E := fun M H σ D r o => by
  obtain ⟨p, xs, h1, h2, h3, h4, h5⟩ := r.own i ds h
  exact ⟨.ref p, h1, o.rn ds k p xs M H r.gr h2 h3 h4 h5⟩
theorem sd_retN (k : E.rt (.val .none)) : SD K M0 H0 tRetN ρ E := fun M H σ D r o => o.rv _ k .non M H r.gr .non
theorem sd_drop (h : EDS K te ρ d) (k : E.nx ρ) : SD K M0 H0 (tDrop te) ρ E := fun M H σ D r o =>
  h M0 H0 M H σ r _ fun v M1 H1 g dv => o.nx _ _ M1 H1 g.mm (r.grow g) k
/-- xs.append(e), xs an own list -/
theorem sd_app (hi : ρ[i]? = some (.o ds)) (h : EDS K te ρ d) (hz : ds.length < 100000) (k : E.nx (ρ.set i (.o (ds ++ [d])))) : SD K M0 H0 (tDrop (tBM K "list" rAppend (tVar i) (tCons te tNil))) ρ E := fun M H σ D r o => by
  obtain ⟨p, xs, h1, h2, h3, h4, h5⟩ := r.own i ds hi
  refine ⟨.ref p, h1, .inl ⟨rfl, xs, SqL.of h4⟩, ?_⟩
  refine h M0 H0 M H σ r _ fun v M1 H1 g dv => ⟨p, xs, v, rfl, rfl, g.hh _ _ h4, Evl.sz_lt (by rw [h5.length]; exact hz), ?_⟩
  exact o.nx _ _ M1 _ g.mm ((r.grow g).mut (xs := xs) hi h1 ((h5.mono g.mm).append (.cons dv .nil))) k
theorem sd_clear (hi : ρ[i]? = some (.o ds)) (k : E.nx (ρ.set i (.o []))) : SD K M0 H0 (tDrop (tBM0 K "list" rClear (tVar i))) ρ E := fun M H σ D r o => by
  obtain ⟨p, xs, h1, h2, h3, h4, h5⟩ := r.own i ds hi
  exact ⟨.ref p, h1, .inl ⟨rfl, xs, SqL.of h4⟩, p, xs, rfl, rfl, h4, o.nx _ _ M _ (Ex.refl _) (r.mut (xs := xs) hi h1 .nil) k⟩
theorem sd_pop (hi : ρ[i]? = some (.o ds)) (hne : ds ≠ []) (k : E.nx (ρ.set i (.o ds.dropLast))) : SD K M0 H0 (tDrop (tBM0 K "list" rPop (tVar i))) ρ E := fun M H σ D r o => by
  obtain ⟨p, xs, h1, h2, h3, h4, h5⟩ := r.own i ds hi
  have hl : xs.length - 1 < xs.length := by
    rw [h5.length]
    have := List.length_pos_iff.mpr hne
    omega
  exact ⟨.ref p, h1, .inl ⟨rfl, xs, SqL.of h4⟩, p, xs, _, rfl, rfl, h4, List.getElem?_eq_getElem hl, o.nx _ _ M _ (Ex.refl _) (r.mut (xs := xs) hi h1 h5.dropLast) k⟩
/-- xs[e2] = e -/
theorem sd_setL {ti : TE} {n : Int} {m : Nat} (hi : ρ[i]? = some (.o ds)) (h : EDS K te ρ d) (h2 : EDS K ti ρ (.int n)) (hn : ixN ds.length n = some m) (k : E.nx (ρ.set i (.o (ds.set m d)))) : SD K M0 H0 (tAsg te (gSub (tVar i) ti rSetL)) ρ E := fun M H σ D r o => by
  obtain ⟨p, xs, h1, g2, h3, h4, h5⟩ := r.own i ds hi
  refine h M0 H0 M H σ r _ fun v M1 H1 g dv => ⟨.ref p, h1, ?_⟩
  refine h2 M0 H0 M1 H1 σ (r.grow g) _ fun w M2 H2 gg dw => ⟨p, xs, n, m, rfl, dw.int_inv, gg.hh _ _ (g.hh _ _ h4), by rw [h5.length]; exact hn, ?_⟩
  exact o.nx _ _ M2 _ (g.mm.trans gg.mm) (((r.grow g).grow gg).mut (xs := xs) hi h1 ((h5.mono (g.mm.trans gg.mm)).set (dv.mono gg.mm) m)) k
/-- a, b = a tuple -/
theorem sd_unpack2 (h : EDS K te ρ (.tuple [a, b])) (k : E.nx ((ρ.set i (.d a)).set j (.d b))) : SD K M0 H0 (tAsg te (gTup K 2 (gCons (gName i) (gCons (gName j) gNil)))) ρ E := fun M H σ D r o =>
  h M0 H0 M H σ r _ fun v M1 H1 g dv => by
    obtain ⟨p, xs, rfl, hp, hs⟩ := dv.tup_inv
    obtain ⟨x, r1, rfl, d1, hs⟩ := hs.cons_inv
    obtain ⟨y, r2, rfl, d2, hs⟩ := hs.cons_inv
    obtain rfl := hs.nil_inv
    exact ⟨p, _, rfl, SqT.of (g.mh _ _ hp), rfl, x, _, rfl, y, _, rfl, rfl, o.nx _ _ M1 H1 g.mm (((r.grow g).setD i d1).setD j d2) k⟩
/-- xs[ia], xs[ib] = (e1, e2) -/
theorem sd_setL2 {te1 te2 tia tib : TE} {na nb : Int} {ma mb : Nat} {x1 x2 : PyData} (hi : ρ[i]? = some (.o ds)) (h1 : EDS K te1 ρ x1) (h2 : EDS K te2 ρ x2) (f1 : fz x1 = true) (f2 : fz x2 = true)
    (ha : ∀ zs : List PyData, EDS K tia (ρ.set i (.o zs)) (.int na)) (hb : ∀ zs : List PyData, EDS K tib (ρ.set i (.o zs)) (.int nb)) (hna : ixN ds.length na = some ma) (hnb : ixN ds.length nb = some mb) (k : E.nx (ρ.set i (.o ((ds.set ma x1).set mb x2)))) :
    SD K M0 H0 (tAsg (tTup (tCons te1 (tCons te2 tNil))) (gTup K 2 (gCons (gSub (tVar i) tia rSetL) (gCons (gSub (tVar i) tib rSetL) gNil)))) ρ E := fun M H σ D r o => by
  obtain ⟨p, xs, s1, s2, s3, s4, s5⟩ := r.own i ds hi
  refine h1 M0 H0 M H σ r _ fun v1 M1 H1 g1 dv1 => ?_
  have r1 := r.grow g1
  refine h2 M0 H0 M1 H1 σ r1 _ fun v2 M2 H2 g2 dv2 => ⟨by show 2 ≤ sizeLine; decide, fun T hT => ?_⟩
  have r2 := r1.grow g2
  have g3 : Gr M2 H2 (upd M2 T (.tup [v1, v2])) (upd H2 T (.tup [v1, v2])) := Gr.new r2.gr.mh hT
  have r3 := r2.grow g3
  refine ⟨T, [v1, v2], rfl, SqT.of upd_same, rfl, v1, [v2], rfl, .ref p, s1, ?_⟩
  have hso : ∀ zs : List PyData, ρ.set i (.o zs) = ρ.set i (.o zs) := fun _ => rfl
  have eρ : ρ.set i (.o ds) = ρ := by
    apply List.ext_getElem?
    intro m
    by_cases e : i = m
    · subst e
      rw [List.getElem?_set_self (List.getElem?_eq_some_iff.mp hi).1, hi]
    · rw [List.getElem?_set_ne e]
  have ha' := ha ds
  rw [eρ] at ha'
  refine ha' M0 H0 _ _ σ r3 _ fun w1 M4 H4 g4 dw1 => ?_
  have g34 := (g1.trans g2).trans (g3.trans g4)
  have hp4 : H4 p = some (.lst xs) := g34.hh _ _ s4
  have r4 := r3.grow g4
  have x5 : DqA K M4 xs ds := s5.mono g34.mm
  have dv1' : Dq K M4 v1 x1 := dv1.mono (g2.mm.trans (g3.mm.trans g4.mm))
  have dv2' : Dq K M4 v2 x2 := dv2.mono (g3.mm.trans g4.mm)
  refine ⟨p, xs, na, ma, rfl, dw1.int_inv, hp4, by rw [s5.length]; exact hna, v2, [], rfl, .ref p, s1, ?_⟩
  have r5 := r4.mut (xs := xs) hi s1 (x5.set dv1' ma)
  refine hb _ M0 H0 M4 _ σ r5 _ fun w2 M6 H6 g6 dw2 => ?_
  have hp6 : H6 p = some (.lst (xs.set ma v1)) := g6.hh _ _ upd_same
  refine ⟨p, _, nb, mb, rfl, dw2.int_inv, hp6, by rw [List.length_set, s5.length]; exact hnb, rfl, ?_⟩
  have r6 := r5.grow g6
  have hi6 : (ρ.set i (.o (ds.set ma x1)))[i]? = some (.o (ds.set ma x1)) := by
    rw [List.getElem?_set_self (List.getElem?_eq_some_iff.mp hi).1]
  have r7 := r6.mut (xs := xs.set ma v1) hi6 s1 (((x5.set dv1' ma).mono g6.mm).set (dv2'.mono g6.mm) mb)
  rw [List.set_set] at r7
  exact o.nx _ _ M6 _ (g34.mm.trans g6.mm) r7 k
/-- ys.append(xs.pop(e)) -/
theorem sd_appPop {ti : TE} {n : Int} {m : Nat} (hi : ρ[i]? = some (.o ds)) (hj : ρ[j]? = some (.o es)) (nij : i ≠ j) (h : EDS K ti ρ (.int n)) (h0 : 0 ≤ n) (hm : n.toNat = m) (hd : es[m]? = some d) (hz : ds.length < 100000) (hz2 : es.length < 100000)
    (k : E.nx ((ρ.set j (.o (es.eraseIdx m))).set i (.o (ds ++ [d])))) :
    SD K M0 H0 (tDrop (tBM K "list" rAppend (tVar i) (tCons (tBM K "list" rPopAt (tVar j) (tCons ti tNil)) tNil))) ρ E := fun M H σ D r o => by
  obtain ⟨p, xs, h1, h2, h3, h4, h5⟩ := r.own i ds hi
  obtain ⟨q, ys, k1, k2, k3, k4, k5⟩ := r.own j es hj
  have npq : p ≠ q := fun e => by
    subst e
    exact r.dis i j p ds es nij hi hj h1 k1
  refine ⟨.ref p, h1, .inl ⟨rfl, xs, SqL.of h4⟩, .ref q, k1, .inl ⟨rfl, ys, SqL.of k4⟩, ?_⟩
  refine h M0 H0 M H σ r _ fun w M1 H1 g dw => ?_
  obtain ⟨y, hy, dy⟩ := k5.get hd
  have hl : m < ys.length := (List.getElem?_eq_some_iff.mp hy).1
  have hl2 : ys.length < 100000 := by rw [k5.length]; exact hz2
  have hn : n < (ys.length : Int) := by omega
  have hs : seqIndex? n ys.length = some m := by
    have e := (ixN_seq (n := ys.length) (i := n) (j := m) (by unfold ixN; rw [if_pos h0, if_pos hn, hm])).1
    exact e
  refine ⟨q, ys, n, m, y, rfl, by rw [dw.int_inv], g.hh _ _ k4, by omega, by omega, hs, hy, ?_⟩
  have r1 := r.grow g
  have r2 := r1.mut (xs := ys) hj k1 ((k5.mono g.mm).erase m)
  have hp2 : upd H1 q (.lst (ys.eraseIdx m)) p = some (.lst xs) := by rw [upd_ne npq]; exact g.hh _ _ h4
  refine ⟨p, xs, y, rfl, rfl, hp2, Evl.sz_lt (by rw [h5.length]; exact hz), ?_⟩
  have hi2 : (ρ.set j (.o (es.eraseIdx m)))[i]? = some (.o ds) := by rw [List.getElem?_set_ne nij.symm]; exact hi
  exact o.nx _ _ M1 _ g.mm (r2.mut (xs := xs) hi2 h1 ((h5.mono g.mm).append (.cons (dy.mono g.mm) .nil))) k
end

/-! ### loops -/
section
variable {K : Fg} {M0 H0 : Hp} {tl : TE} {tt : TT} {tb : TS} {ta : TA} {ρ : List Sl} {E : DE} {α : Type} {enc : α → PyData} {xs : List α} {j : Nat}
def LpI (K : Fg) (M0 H0 M1 : Hp) (P : List Sl → Prop) (σ : L2.St) (H : Hp) : Prop := ∃ M ρ, Ex M1 M ∧ Rs K M0 H0 M H σ ρ ∧ P ρ
theorem lp_body {M1 H' : Hp} {σ' : L2.St} {D : Ends} {P P' : List Sl → Prop} {v : V} {d : PyData} (o : Ok K M0 H0 M1 E D) (I : LpI K M0 H0 M1 P σ' H') (hv : ∀ M', Ex M1 M' → Dq K M' v d)
    (hs : ∀ ρ', P ρ' → SD K M0 H0 tb (ρ'.set j (.d d)) { nx := P', ct := P', bk := E.nx, rt := E.rt }) :
    gName j v σ' H' fun σ2 H2 => tb { D with nx := LpI K M0 H0 M1 P', ct := LpI K M0 H0 M1 P', bk := D.nx } σ2 H2 := by
  obtain ⟨M', ρ', e, r, hp⟩ := I
  exact hs ρ' hp M' H' _ _ (r.setD j (hv M' e)) ⟨fun ρ2 σ2 M2 H2 e2 r2 k => ⟨M2, ρ2, e.trans e2, r2, k⟩, fun ρ2 σ2 M2 H2 e2 r2 k => o.nx ρ2 σ2 M2 H2 (e.trans e2) r2 k,
    fun ρ2 σ2 M2 H2 e2 r2 k => ⟨M2, ρ2, e.trans e2, r2, k⟩, o.rv, o.rn⟩
theorem lp_end {M1 H' : Hp} {σ' : L2.St} {D : Ends} {P : List Sl → Prop} (o : Ok K M0 H0 M1 E D) (I : LpI K M0 H0 M1 P σ' H') (hd : ∀ ρ', P ρ' → E.nx ρ') : D.nx σ' H' := by
  obtain ⟨M', ρ', e, r, hp⟩ := I
  exact o.nx ρ' σ' M' H' e r (hd ρ' hp)
theorem sd_forL (src : EDS K tl ρ (.list (xs.map enc))) (Pv : Nat → List Sl → Prop) (h0 : Pv 0 ρ) (hs : ∀ (i : Nat) (x : α) ρ', xs[i]? = some x → Pv i ρ' → SD K M0 H0 tb (ρ'.set j (.d (enc x))) { nx := Pv (i + 1), ct := Pv (i + 1), bk := E.nx, rt := E.rt })
    (hd : ∀ ρ', Pv xs.length ρ' → E.nx ρ') : SD K M0 H0 (tFor (iList K tl) (gName j) tb) ρ E := fun M H σ D r o =>
  src M0 H0 M H σ r _ fun v M1 H1 g dv => by
    obtain ⟨p, vs, rfl, hp, hv⟩ := dv.lst_inv
    have hl : vs.length = xs.length := by rw [hv.length, List.length_map]
    refine ⟨p, rfl, ⟨vs, SqL.of (g.mh _ _ hp)⟩, for_list (xs := vs) (fun i σ' H' => LpI K M0 H0 M1 (Pv i) σ' H') ⟨M1, ρ, Ex.refl _, r.grow g, h0⟩ (fun i σ' H' _ I => ?_) (fun i x σ' H' hx I => ?_) (fun σ' H' I => ?_)⟩
    · obtain ⟨M', ρ', e, r', _⟩ := I
      exact SqL.of (r'.gr.mh _ _ (e _ _ hp))
    · have hi : i < xs.length := by rw [← hl]; exact (List.getElem?_eq_some_iff.mp hx).1
      have hx' : xs[i]? = some xs[i] := List.getElem?_eq_getElem hi
      obtain ⟨d, h1, h2⟩ := hv.getV hx
      rw [List.getElem?_map, hx'] at h1
      cases h1
      exact lp_body (o.mono g.mm) I (fun M' e => h2.mono e) (hs i _ · hx')
    · exact lp_end (o.mono g.mm) I (by rw [hl]; exact hd)
theorem sd_forT (src : EDS K tl ρ (.tuple (xs.map enc))) (Pv : Nat → List Sl → Prop) (h0 : Pv 0 ρ) (hs : ∀ (i : Nat) (x : α) ρ', xs[i]? = some x → Pv i ρ' → SD K M0 H0 tb (ρ'.set j (.d (enc x))) { nx := Pv (i + 1), ct := Pv (i + 1), bk := E.nx, rt := E.rt })
    (hd : ∀ ρ', Pv xs.length ρ' → E.nx ρ') : SD K M0 H0 (tFor (iTup K tl) (gName j) tb) ρ E := fun M H σ D r o =>
  src M0 H0 M H σ r _ fun v M1 H1 g dv => by
    obtain ⟨p, vs, rfl, hp, hv⟩ := dv.tup_inv
    have hl : vs.length = xs.length := by rw [hv.length, List.length_map]
    refine ⟨p, rfl, ⟨vs, SqT.of (g.mh _ _ hp)⟩, for_tup (xs := vs) (fun i σ' H' => LpI K M0 H0 M1 (Pv i) σ' H') ⟨M1, ρ, Ex.refl _, r.grow g, h0⟩ (fun i σ' H' _ I => ?_) (fun i x σ' H' hx I => ?_) (fun σ' H' I => ?_)⟩
    · obtain ⟨M', ρ', e, r', _⟩ := I
      exact SqT.of (r'.gr.mh _ _ (e _ _ hp))
    · have hi : i < xs.length := by rw [← hl]; exact (List.getElem?_eq_some_iff.mp hx).1
      have hx' : xs[i]? = some xs[i] := List.getElem?_eq_getElem hi
      obtain ⟨d, h1, h2⟩ := hv.getV hx
      rw [List.getElem?_map, hx'] at h1
      cases h1
      exact lp_body (o.mono g.mm) I (fun M' e => h2.mono e) (hs i _ · hx')
    · exact lp_end (o.mono g.mm) I (by rw [hl]; exact hd)
theorem sd_forR {lo n : Int} {wi : TI} (hwi : ∀ M0 H0 M H σ, Rs K M0 H0 M H σ ρ → ∀ R : It → Hp → Prop, (∀ M2 H2, Gr M H M2 H2 → R (Itr lo (n - lo).toNat) H2) → wi σ H R) (Pv : Nat → List Sl → Prop) (h0 : Pv 0 ρ)
    (hs : ∀ (i : Nat) ρ', i < (n - lo).toNat → Pv i ρ' → SD K M0 H0 tb (ρ'.set j (.d (.int (lo + (i : Nat))))) { nx := Pv (i + 1), ct := Pv (i + 1), bk := E.nx, rt := E.rt }) (hd : ∀ ρ', Pv (n - lo).toNat ρ' → E.nx ρ') : SD K M0 H0 (tFor wi (gName j) tb) ρ E := fun M H σ D r o =>
  hwi M0 H0 M H σ r _ fun M1 H1 g =>
    for_range (lo := lo) (n := (n - lo).toNat) (fun i σ' H' => LpI K M0 H0 M1 (Pv i) σ' H') ⟨M1, ρ, Ex.refl _, r.grow g, h0⟩ (fun i σ' H' hi I => lp_body (o.mono g.mm) I (fun M' e => .int _) (hs i · hi)) (fun σ' H' I => lp_end (o.mono g.mm) I hd)
theorem wis_1 {n : Int} (h : EAS K ta ρ [.int n]) (hn : -100000 ≤ n ∧ n < 100000) : ∀ M0 H0 M H σ, Rs K M0 H0 M H σ ρ → ∀ R : It → Hp → Prop, (∀ M2 H2, Gr M H M2 H2 → R (Itr 0 (n - 0).toNat) H2) → iRng1 ta σ H R := fun M0 H0 M H σ r R q =>
  h M0 H0 M H σ r _ fun vs M1 H1 g1 dv => by
    obtain ⟨v, r, rfl, h1, h2⟩ := dv.cons_inv
    obtain rfl := h2.nil_inv
    rw [h1.int_inv]
    refine ⟨n, rfl, by omega, by omega, ?_⟩
    have := q M1 H1 g1
    rwa [Int.sub_zero] at this
theorem wis_2 {m n : Int} (h : EAS K ta ρ [.int m, .int n]) (hn : -100000 ≤ m ∧ m < 100000 ∧ -100000 ≤ n ∧ n < 100000) : ∀ M0 H0 M H σ, Rs K M0 H0 M H σ ρ → ∀ R : It → Hp → Prop, (∀ M2 H2, Gr M H M2 H2 → R (Itr m (n - m).toNat) H2) → iRng2 ta σ H R := fun M0 H0 M H σ r R q =>
  h M0 H0 M H σ r _ fun vs M1 H1 g1 dv => by
    obtain ⟨v, r, rfl, h1, h2⟩ := dv.cons_inv
    obtain ⟨v2, r2, rfl, h3, h4⟩ := h2.cons_inv
    obtain rfl := h4.nil_inv
    rw [h1.int_inv, h3.int_inv]
    exact ⟨m, n, rfl, ⟨by omega, by omega, by omega, by omega⟩, q M1 H1 g1⟩
theorem sd_forR1 {n : Int} (h : EAS K ta ρ [.int n]) (hn : -100000 ≤ n ∧ n < 100000) (Pv : Nat → List Sl → Prop) (h0 : Pv 0 ρ)
    (hs : ∀ (i : Nat) ρ', (i : Int) < n → Pv i ρ' → SD K M0 H0 tb (ρ'.set j (.d (.int (i : Nat)))) { nx := Pv (i + 1), ct := Pv (i + 1), bk := E.nx, rt := E.rt }) (hd : ∀ ρ', Pv n.toNat ρ' → E.nx ρ') : SD K M0 H0 (tFor (iRng1 ta) (gName j) tb) ρ E :=
  sd_forR (wis_1 h hn) Pv h0 (fun i ρ' hi hp => by
    have := hs i ρ' (by omega) hp
    rwa [show (0 : Int) + (i : Nat) = (i : Nat) from Int.zero_add _]) (fun ρ' hp => hd ρ' (by rwa [Int.sub_zero] at hp))
/-- while: the word by a measure -/
theorem sd_while (W : Nat → List Sl → Prop) (m0 : Nat) (h0 : W m0 ρ)
    (hs : ∀ m ρ', W m ρ' → ∃ c, ETS K tt ρ' c ∧ (c = true → SD K M0 H0 tb ρ' { nx := fun ρ2 => ∃ m', m' < m ∧ W m' ρ2, ct := fun ρ2 => ∃ m', m' < m ∧ W m' ρ2, bk := E.nx, rt := E.rt }) ∧ (c = false → E.nx ρ')) : SD K M0 H0 (tWhile tt tb) ρ E := fun M H σ D r o =>
  ⟨fun m σ' H' => LpI K M0 H0 M (W m) σ' H', ⟨m0, M, ρ, Ex.refl _, r, h0⟩, fun m σ' H' I => by
    obtain ⟨M', ρ', e, r', hw⟩ := I
    obtain ⟨c, ht, h1, h2⟩ := hs m ρ' hw
    refine ht M0 H0 M' H' σ' r' _ fun M1 H1 g => ?_
    cases c with
    | true =>
      show ∃ N : L2.St → Hp → Prop, _ ∧ _
      refine ⟨fun σ2 H2 => ∃ m', m' < m ∧ LpI K M0 H0 M (W m') σ2 H2, fun σ2 H2 h => h, ?_⟩
      refine h1 rfl M1 H1 σ' _ (r'.grow g) ⟨fun ρ2 σ2 M2 H2 e2 r2 k => ?_, fun ρ2 σ2 M2 H2 e2 r2 k => o.nx ρ2 σ2 M2 H2 (e.trans (g.mm.trans e2)) r2 k, fun ρ2 σ2 M2 H2 e2 r2 k => ?_, o.rv, o.rn⟩
      · obtain ⟨m', l, w⟩ := k
        exact ⟨m', l, M2, ρ2, e.trans (g.mm.trans e2), r2, w⟩
      · obtain ⟨m', l, w⟩ := k
        exact ⟨m', l, M2, ρ2, e.trans (g.mm.trans e2), r2, w⟩
    | false =>
      show D.nx σ' H1
      exact o.nx ρ' σ' M1 H1 (e.trans g.mm) (r'.grow g) (h2 rfl)⟩
end

/-! ### defs -/
abbrev Spec := List PyData → Ret → Prop
def RetOk (K : Fg) (r : Ret) (M H : Hp) (Q : VK) (E : XK) : Prop := match r with
  | .val d => ∀ v M' H', Gr M H M' H' → Dq K M' v d → Q v H'
  | .new ds => ∀ p xs M' H', Gr M H M' H' → H p = none → M' p = none → H' p = some (.lst xs) → DqA K M' xs ds → Q (.ref p) H'
  | .exc C => ∀ M' H', Gr M H M' H' → E (.ref C) none H'
def SpD (K : Fg) (S : Spec) : Sp := fun vs H Q E => ∃ M ds r, Ex M H ∧ DqA K M vs ds ∧ S ds r ∧ RetOk K r M H Q E
/-- a def of the text that may be called by its name -/
structure Cad (CX : CXT) (P : Program) (w : World) (K : Fg) (mg : Str → Option Value) (base : Heap) (k : Nat) (x : Str) (S : Spec) : Prop where
  ex : ∃ (f : Addr) (fd : FuncData) (ps : List Str), FnOk P w K mg base CX k f fd ps (SpD K S) ∧ mg x = some (.ref f) ∧ PySem.W.keepIn K (.ref f) = true ∧ Binds K fd ps []
section
variable {X : Cx} {CX : CXT} {k j : Nat} {x : Str} {S : Spec} {E : XK} {p pos : Pos} {e : Expr} {es : List Expr} {t : TA}
theorem pe_cl (c : Cad CX X.prog X.w X.K X.mg X.base k x S) (hr : Room j X.A) (hk : k ≤ j) (hx : Passes CX X E) (hg : Gl X x) (ha : PA X (e :: es) t) (hdb : (x == ("__debug__" : Str)) = false := by decide)
    (he : starEach (e :: es) X.env = (false, eval e X.env) :: starEach es X.env := by rfl) (hpl : (backTo pos (starEach es X.env)).any (·.1) = false := by rfl) :
    PE X (.Call (.Name x p) (e :: es) [] pos) (tCall (SpD X.K S) [] E t) := by
  obtain ⟨f, fd, ps, F, hm, kp, b⟩ := c.ex
  exact pe_call F (hr.mono hk) hg hm kp b .nil hx ha hdb he hpl
end
section
variable {K : Fg} {δ : Dn} {ta : TA} {as ds : List PyData} {d : PyData} {S : Spec} {E : XK} {ρ : List Sl} {M0 H0 : Hp}
theorem ed_call (h : EA K ta δ as) (s : S as (.val d)) : ED K (tCall (SpD K S) [] E ta) δ d := fun M H σ e rr Q q =>
  h M H σ e rr _ fun vs M1 H1 g dvs => ⟨M1, as, .val d, g.mh, by rw [List.append_nil]; exact dvs, s, fun v M' H' g' dv => q v M' H' (g.trans g') dv⟩
theorem ef_call (h : EA K ta δ as) (s : S as (.new ds)) : EF K (tCall (SpD K S) [] E ta) δ ds := fun M H σ e rr Q q =>
  h M H σ e rr _ fun vs M1 H1 g dvs => ⟨M1, as, .new ds, g.mh, by rw [List.append_nil]; exact dvs, s, fun p xs M' H' g' n1 n2 hp dv => q p xs M' H' (g.trans g') (Evl.fresh_back g.hh n1) n2 hp dv⟩
end
/-- a def by its body -/
theorem fn_ofD {P : Program} {w : World} {K : Fg} {mg : Str → Option Value} {base : Heap} {CX : CXT} {x : Str} {params : Arguments} {body : List Stmt} {scope : Scope} {N ps : List Str} {k : Nat} {S : Spec} {f : Addr} {fd : FuncData}
    (F : FunD K x x params body scope [] [] f fd) (Sc : FnScope N ps scope) (len : ∀ ds r, S ds r → ds.length = ps.length)
    (hbody : ∀ (f : Addr) (cdv : Value) (A : Around) (outer : List Env) (s : Shared) (H : Hp) (E : XK) (M0 : Hp) (ds : List PyData) (r : Ret), Room k (A.deeper (envOfC x scope s.heap.objs.size f cdv)) → S ds r →
      (∀ C, r = .exc C → ∀ M' H', Gr M0 H M' H' → E (.ref C) none H') →
      ∃ t, PSs (cxOf CX P w K mg base N x scope f cdv A outer s H E) body t ∧ SD K M0 H t (ds.map Sl.d ++ List.replicate (N.length - ds.length) .u) { nx := fun _ => r = .val .none, rt := fun r' => r' = r }) :
    FnOk P w K mg base CX (k + 1) f fd ps (SpD K S) := by
  refine F.ok Sc (fun vs H Q E h => ?_) (fun cdv A outer s H vs Q E hr h => ?_)
  · obtain ⟨M, ds, r, _, dv, s, _⟩ := h
    rw [dv.length]
    exact len ds r s
  · obtain ⟨M, ds, r, e, dv, hs, ro⟩ := h
    obtain ⟨t, ht, hsd⟩ := hbody f cdv A outer s H E M ds r hr hs (fun C hC M' H' g => by subst hC; exact ro M' H' g)
    refine ⟨t, ht, ?_⟩
    have hl := dv.length
    refine hsd M H _ _ ⟨Gr.refl e, ?_, fun i d hi => ?_, fun i d hi => ?_, fun i j p d1 d2 _ hi => ?_⟩ ⟨fun ρ σ M' H' _ r' k => ?_, fun _ _ _ _ _ _ k => k.elim, fun _ _ _ _ _ _ k => k.elim, fun d hd v M' H' g dv' => ?_, fun es hd p xs M' H' g n1 n2 hp dv' => ?_⟩
    · simp [L2.start, hl]
    · have hi' : i < ds.length := by
        by_cases q : i < ds.length
        · exact q
        · rw [List.getElem?_append_right (by simpa using Nat.le_of_not_lt q)] at hi
          have := List.mem_of_getElem? hi
          rw [List.mem_replicate] at this
          cases this.2
      rw [List.getElem?_append_left (by simpa using hi'), List.getElem?_map, List.getElem?_eq_getElem hi'] at hi
      have e1 : ds[i]? = some d := by
        rw [List.getElem?_eq_getElem hi']
        exact congrArg some (Sl.d.inj (Option.some.inj hi))
      obtain ⟨v, h1, h2⟩ := dv.get e1
      refine ⟨v, ?_, h2⟩
      unfold L2.start
      rw [List.getElem?_append_left (by rw [List.length_map]; exact (List.getElem?_eq_some_iff.mp h1).1), List.getElem?_map, h1]
      rfl
    · exfalso
      have := List.mem_of_getElem? hi
      rw [List.mem_append] at this
      rcases this with h | h
      · obtain ⟨_, _, z⟩ := List.mem_map.mp h
        cases z
      · rw [List.mem_replicate] at h
        cases h.2
    · exfalso
      have := List.mem_of_getElem? hi
      rw [List.mem_append] at this
      rcases this with h | h
      · obtain ⟨_, _, z⟩ := List.mem_map.mp h
        cases z
      · rw [List.mem_replicate] at h
        cases h.2
    · have k' : r = .val .none := k
      subst k'
      exact ro .non M' H' r'.gr .non
    · have k' : Ret.val d = r := hd
      subst k'
      exact ro v M' H' g dv'
    · have k' : Ret.new es = r := hd
      subst k'
      exact ro p xs M' H' g n1 n2 hp dv'
theorem cl_of {P : Program} {w : World} {K : Fg} {mg : Str → Option Value} {base : Heap} {CX : CXT} {x : Str} {params : Arguments} {body : List Stmt} {scope : Scope} {N ps : List Str} {k : Nat} {S : Spec}
    (hF : ∃ f fd, FunD K x x params body scope [] [] f fd ∧ mg x = some (.ref f)) (Sc : FnScope N ps scope)
    (hb : ∀ (f : Addr) (fd : FuncData), FunD K x x params body scope [] [] f fd → Binds K fd ps [])
    (len : ∀ ds r, S ds r → ds.length = ps.length)
    (hbody : ∀ (f : Addr) (cdv : Value) (A : Around) (outer : List Env) (s : Shared) (H : Hp) (E : XK) (M0 : Hp) (ds : List PyData) (r : Ret), Room k (A.deeper (envOfC x scope s.heap.objs.size f cdv)) → S ds r →
      (∀ C, r = .exc C → ∀ M' H', Gr M0 H M' H' → E (.ref C) none H') →
      ∃ t, PSs (cxOf CX P w K mg base N x scope f cdv A outer s H E) body t ∧ SD K M0 H t (ds.map Sl.d ++ List.replicate (N.length - ds.length) .u) { nx := fun _ => r = .val .none, rt := fun r' => r' = r }) :
    Cad CX P w K mg base (k + 1) x S := by
  obtain ⟨f, fd, F, hm⟩ := hF
  exact ⟨f, fd, ps, fn_ofD F Sc len hbody, hm, F.kp, hb f fd F⟩
end U

namespace U
open PySem PySem.Spec PyProof.Rows L2

/-! ### rules that the layer lacks -/
section
variable {X : Cx} {a b c e : Expr} {ta tb tc te : TE} {pos : Pos} {x : Str}
theorem pe_gint {i : Int} (hg : Gl X x) (hm : ∃ t, X.mg x = some (.int i t)) (hd : (x == ("__debug__" : Str)) = false := by decide) : PE X (.Name x pos) (tC (.int i)) := by
  obtain ⟨t, h⟩ := hm
  exact pe_glob hg h ⟨t, rfl⟩ hd
theorem pe_gstr {i : Str} (hg : Gl X x) (hm : ∃ t, X.mg x = some (.str i t)) (hd : (x == ("__debug__" : Str)) = false := by decide) : PE X (.Name x pos) (tC (.str i)) := by
  obtain ⟨t, h⟩ := hm
  exact pe_glob hg h ⟨t, rfl⟩ hd
/-- a op1 b op2 c op3 d -/
def tChain3 (r r' r3 : R2) (ta tb tc te : TE) : TE := fun σ H Q => ta σ H fun x H1 => tb σ H1 fun y H2 => r x y H2 fun z H3 => ∃ k, z = .bl k ∧
  (if k = true then tc σ H3 fun w' H4 => r' y w' H4 fun z2 H5 => ∃ k2, z2 = .bl k2 ∧ (if k2 = true then te σ H5 fun u' H6 => r3 w' u' H6 Q else Q (.bl false) H5) else Q (.bl false) H3)
theorem pe_chain3 {op op' op3 : CmpOp} {r r' r3 : R2} (ho : OpR X (compareOp op) r) (ho' : OpR X (compareOp op') r') (ho3 : OpR X (compareOp op3) r3) (ha : PE X a ta) (hb : PE X b tb) (hc : PE X c tc) (he : PE X e te)
    (hm : lastMarks [op, op', op3] [b, c, e] = false := by with_unfolding_all rfl) : PE X (.Compare a [op, op', op3] [b, c, e] pos) (tChain3 r r' r3 ta tb tc te) := by
  refine ⟨fun pins s σ H Q I h => ?_⟩
  refine Compare_chain (thn (ha.run pins s σ H _ I h) fun v s1 ⟨x, H1, I1, r1, q1⟩ => chain_link (thn (hb.run pins s1 σ H1 _ I1 q1) fun u s2 ⟨y, H2, I2, r2, q2⟩ =>
    thn (ho pins s2 σ H2 x y v u _ I2 r1 r2 q2) fun d s3 ⟨z, H3, I3, r3', k, e', q3⟩ => ?_)) hm
  subst e'
  cases r3'
  refine wpAny_truthy_bool ?_
  cases k with
  | false => exact ite_ff ⟨.bl false, H3, I3, rfl, q3⟩
  | true =>
    refine ite_tt (chain_link (thn (hc.run pins s3 σ H3 _ I3 q3) fun w' s4 ⟨z', H4, I4, r4, q4⟩ => thn (ho' pins s4 σ H4 y z' u w' _ I4 r2 r4 q4) fun d2 s5 ⟨z2, H5, I5, r5, k2, e2, q5⟩ => ?_))
    subst e2
    cases r5
    refine wpAny_truthy_bool ?_
    cases k2 with
    | false => exact ite_ff ⟨.bl false, H5, I5, rfl, q5⟩
    | true => exact ite_tt (chain_last (thn (he.run pins s5 σ H5 _ I5 q5) fun u' s6 ⟨y6, H6, I6, r6, q6⟩ => ho3 pins s6 σ H6 z' y6 w' u' Q I6 r4 r6 q6))
end
section
variable {K : Fg} {δ : Dn} {ta tb tc te : TE} {i j k l : Int}
theorem ed_chainI {f g : Int → Int → Bool} (ha : ED K ta δ (.int i)) (hb : ED K tb δ (.int j)) (hc : ED K tc δ (.int k)) :
    ED K (tChain (rI0 fun i j => .bl (f i j)) (rI0 fun i j => .bl (g i j)) ta tb tc) δ (.bool (f i j && g j k)) := fun M H σ e rr Q q =>
  ha M H σ e rr _ fun x M1 H1 g1 dx => hb M1 H1 σ g1.mh (rr.mono g1.mm) _ fun y M2 H2 g2 dy => by
    have g12 := g1.trans g2
    refine ⟨i, j, dx.int_inv, dy.int_inv, f i j, rfl, ?_⟩
    cases hf : f i j with
    | false =>
      rw [hf, Bool.false_and] at q
      exact iteF (q (.bl false) M2 H2 g12 (.bl false))
    | true =>
      rw [hf, Bool.true_and] at q
      exact iteT (hc M2 H2 σ g2.mh (rr.mono g12.mm) _ fun z M3 H3 g3 dz => ⟨j, k, dy.int_inv, dz.int_inv, q _ M3 H3 (g12.trans g3) (.bl _)⟩)
theorem ed_chain3I {f g h : Int → Int → Bool} (ha : ED K ta δ (.int i)) (hb : ED K tb δ (.int j)) (hc : ED K tc δ (.int k)) (he : ED K te δ (.int l)) :
    ED K (tChain3 (rI0 fun i j => .bl (f i j)) (rI0 fun i j => .bl (g i j)) (rI0 fun i j => .bl (h i j)) ta tb tc te) δ (.bool (f i j && (g j k && h k l))) := fun M H σ e rr Q q =>
  ha M H σ e rr _ fun x M1 H1 g1 dx => hb M1 H1 σ g1.mh (rr.mono g1.mm) _ fun y M2 H2 g2 dy => by
    have g12 := g1.trans g2
    refine ⟨i, j, dx.int_inv, dy.int_inv, f i j, rfl, ?_⟩
    cases hf : f i j with
    | false =>
      rw [hf, Bool.false_and] at q
      exact iteF (q (.bl false) M2 H2 g12 (.bl false))
    | true =>
      rw [hf, Bool.true_and] at q
      refine iteT (hc M2 H2 σ g2.mh (rr.mono g12.mm) _ fun z M3 H3 g3 dz => ⟨j, k, dy.int_inv, dz.int_inv, g j k, rfl, ?_⟩)
      have g123 := g12.trans g3
      cases hg : g j k with
      | false =>
        rw [hg, Bool.false_and] at q
        exact iteF (q (.bl false) M3 H3 g123 (.bl false))
      | true =>
        rw [hg, Bool.true_and] at q
        exact iteT (he M3 H3 σ g3.mh (rr.mono g123.mm) _ fun w M4 H4 g4 dw => ⟨k, l, dz.int_inv, dw.int_inv, q _ M4 H4 (g123.trans g4) (.bl _)⟩)
/-- xs.index(y) of ints -/
theorem ed_index {ns : List Int} (ho : ED K ta δ (.list (ns.map .int))) (he : ED K tb δ (.int i)) (hm : i ∈ ns) : ED K (tBM K "list" (rIndex K) ta (tCons tb tNil)) δ (.int (ns.idxOf i : Nat)) := fun M H σ e rr Q q =>
  ho M H σ e rr _ fun x M1 H1 g1 dx => by
    obtain ⟨p, xs, rfl, hp, hs⟩ := dx.lst_inv
    obtain rfl := hs.ints
    refine ⟨.inl ⟨rfl, _, SqL.of (g1.mh _ _ hp)⟩, he M1 H1 σ g1.mh (rr.mono g1.mm) _ fun y M2 H2 g2 dy => ?_⟩
    rw [dy.int_inv]
    have hl : ns.idxOf i < ns.length := List.idxOf_lt_length_of_mem hm
    have hg : ns[ns.idxOf i]? = some i := by rw [List.getElem?_eq_getElem hl, List.getElem_idxOf]
    refine ⟨p, ns.map V.int, .int i, ns.idxOf i, .int i, rfl, rfl, SqL.of (g2.hh _ _ (g1.mh _ _ hp)), rfl, all_flat_ints ns, ?_, ?_, fun m z hm' hz => ?_, q _ M2 H2 (g1.trans g2) (.int _)⟩
    · rw [List.getElem?_map, hg]; rfl
    · show (i == i) = true
      simp
    · rw [List.getElem?_map] at hz
      cases hq : ns[m]? with
      | none => rw [hq] at hz; cases hz
      | some w =>
        rw [hq] at hz
        cases hz
        have hw : w ≠ i := by
          have hml : m < ns.length := (List.getElem?_eq_some_iff.mp hq).1
          have := List.not_of_lt_findIdx (p := (· == i)) (xs := ns) (i := m) (by unfold List.idxOf at hm'; exact hm')
          rw [List.getElem?_eq_getElem hml] at hq
          rw [← Option.some.inj hq]
          simpa using this
        show (w == i) = false
        simpa using hw
/-- isinstance -/
inductive TyD : PyData → String → Prop
  | non : TyD .none "NoneType"
  | bl (b : Bool) : TyD (.bool b) "bool"
  | int (i : Int) : TyD (.int i) "int"
  | str (x : Str) : TyD (.str x) "str"
  | lst (ds : List PyData) : TyD (.list ds) "list"
  | tup (ds : List PyData) : TyD (.tuple ds) "tuple"
theorem TyD.ty {d : PyData} {T : String} {M H : Hp} {v : V} (t : TyD d T) (e : Ex M H) (h : Dq K M v d) : TyX K H v (.type T) := by
  cases t with
  | non => rw [h.non_inv]; exact .base .non
  | bl b => rw [h.bl_inv]; exact .base (.bl b)
  | int b => rw [h.int_inv]; exact .base (.int b)
  | str b => rw [h.str_inv]; exact .base (.str b)
  | lst ds => obtain ⟨a, xs, rfl, hp, _⟩ := h.lst_inv; exact .base (.lst (e _ _ hp))
  | tup ds => obtain ⟨a, xs, rfl, hp, _⟩ := h.tup_inv; exact .base (.tup (e _ _ hp))
theorem ed_isi {d : PyData} {T C : String} {b : Bool} (h : ED K ta δ d) (t : TyD d T) (hb : kitB T C = some b) : ED K (tCB (rIsi K) (tCons ta (tCons (tC (.ty C)) tNil))) δ (.bool b) := fun M H σ e rr Q q =>
  h M H σ e rr _ fun v M1 H1 g1 dv => ⟨v, .ty C, .type T, .type C, b, rfl, .ty C, t.ty g1.mh dv, kit_ty hb, q _ M1 H1 g1 (.bl b)⟩
end
theorem kb_ll : kitB "list" "list" = some true := by decide +kernel
theorem kb_ii : kitB "int" "int" = some true := by decide +kernel
theorem kb_ib : kitB "int" "bool" = some false := by decide +kernel
theorem kb_bb : kitB "bool" "bool" = some true := by decide +kernel
theorem kb_tt : kitB "tuple" "tuple" = some true := by decide +kernel
theorem kb_ss : kitB "str" "str" = some true := by decide +kernel
theorem kb_sl : kitB "str" "list" = some false := by decide +kernel

/-! ### the layer's rules with K named (within a comprehension's block the context is another) -/
section
variable {X : Cx} (K : Fg)
theorem ixL (h : X.K = K) : IxR X (rIxL K) := by subst h; exact ix_list
theorem ixT (h : X.K = K) : IxR X (rIxT K) := by subst h; exact ix_tup
theorem opEqD (h : X.K = K) (hu : X.A.units + 64 < cLine) : OpR X (compareOp .Eq) (rEqD K) := by subst h; exact op_eqD hu
theorem opNeD (h : X.K = K) (hu : X.A.units + 64 < cLine) : OpR X (compareOp .NotEq) (rNeD K) := by subst h; exact op_neD hu
theorem opIn (h : X.K = K) : OpR X (compareOp .In) (rIn K false) := by subst h; exact op_in_seq
theorem opNotIn (h : X.K = K) : OpR X (compareOp .NotIn) (rIn K true) := by subst h; exact op_notIn_seq
theorem cLen (h : X.K = K) : CallR X (.builtin "len") (rLen K) := by subst h; exact call_len
theorem cList (h : X.K = K) : CallR X (.type "list") (rListOf K) := by subst h; exact call_list_of
theorem cTup (h : X.K = K) : CallR X (.type "tuple") (rTupOf K) := by subst h; exact call_tuple_of
theorem cSum (h : X.K = K) (hc : X.calm = true) : CallR X (.builtin "sum") (rSum K) := by subst h; exact cr_sum hc
theorem cAll (h : X.K = K) (hc : X.calm = true) : CallR X (.builtin "all") (rAll K) := by subst h; exact cr_all hc
theorem cMin (h : X.K = K) (hc : X.calm = true) : CallR X (.builtin "min") (rMin K) := by subst h; exact cr_min hc
theorem cSorted (h : X.K = K) : CallR X (.builtin "sorted") (rSortedI K) := by subst h; exact cr_sortedI
theorem cIsi (h : X.K = K) : CallR X (.builtin "isinstance") (rIsi K) := by subst h; exact call_isi
theorem slL (h : X.K = K) : SlR X (rSlL K) := by subst h; exact sl_list
theorem slT (h : X.K = K) : SlR X (rSlT K) := by subst h; exact sl_tup
theorem mIndex (h : X.K = K) : MtR X "list.index" (rIndex K) := by subst h; exact mt_index
theorem piL {tg l : Expr} {tl : TE} (h : X.K = K) (hl : PE X l tl) : PI X tg l (iList K tl) := by subst h; exact pi_list hl
theorem piT {tg l : Expr} {tl : TE} (h : X.K = K) (hl : PE X l tl) : PI X tg l (iTup K tl) := by subst h; exact pi_tup hl
theorem pgTup {es : List Expr} {k : Nat} {t : TGs} {n : Nat} {pos : Pos} (h : X.K = K) (hc : X.calm = true) (ht : PGs X es t) (hn : (assignEach es X.env).length = n := by rfl) (hst : (assignEach es X.env).findIdx? (·.1) = none := by rfl) : PG X (.Tuple es k pos) (gTup K n t) := by
  subst h; exact pg_tup hc ht hn hst
theorem kBm {e : Expr} {to : TE} {t : TA} {T : String} {r : V → List V → Hp → VK → Prop} (h : X.K = K) (p : PE X e (tBM X.K T r to t)) : PE X e (tBM K T r to t) := by subst h; exact p
theorem kBm0 {e : Expr} {to : TE} {T : String} {r : V → List V → Hp → VK → Prop} (h : X.K = K) (p : PE X e (tBM0 X.K T r to)) : PE X e (tBM0 K T r to) := by subst h; exact p
theorem kCl {e : Expr} {S : Spec} {E : XK} {t : TA} (h : X.K = K) (p : PE X e (tCall (SpD X.K S) [] E t)) : PE X e (tCall (SpD K S) [] E t) := by subst h; exact p
end

theorem cdk {i j : Int} (h : 0 < j ∧ j < 1073741824) : CDiv i j := h
/-! ### equality of data -/
abbrev lint (ns : List Int) : PyData := .list (ns.map .int)
theorem eqvAll_ints : ∀ (a b : List Int), PyData.eqvAll (a.map .int) (b.map .int) = decide (a = b)
  | [], [] => by simp [PyData.eqvAll]
  | [], _ :: _ => by simp [PyData.eqvAll]
  | _ :: _, [] => by simp [PyData.eqvAll]
  | x :: a, y :: b => by
    simp only [List.map_cons, PyData.eqvAll, PyData.eqv, eqvAll_ints a b, List.cons.injEq]
    by_cases h : x = y <;> simp [h]
theorem eqv_lint (a b : List Int) : PyData.eqv (lint a) (lint b) = decide (a = b) := by
  show PyData.eqv (.list _) (.list _) = _
  rw [PyData.eqv, eqvAll_ints]
theorem depth_of_mem {n : Nat} : ∀ {ds : List PyData}, (∀ d ∈ ds, d.depth ≤ n) → PyData.depthAll ds ≤ n
  | [], _ => by simp [PyData.depthAll]
  | x :: xs, h => by
    simp only [PyData.depthAll]
    have h1 := h x List.mem_cons_self
    have h2 := depth_of_mem (ds := xs) fun d hd => h d (List.mem_cons_of_mem _ hd)
    omega
theorem lay_of_mem : ∀ {ds : List PyData}, (∀ d ∈ ds, d.canLay0 = true) → PyData.canLayAll0 ds = true
  | [], _ => by simp [PyData.canLayAll0]
  | x :: xs, h => by
    simp only [PyData.canLayAll0, Bool.and_eq_true]
    exact ⟨h x List.mem_cons_self, lay_of_mem fun d hd => h d (List.mem_cons_of_mem _ hd)⟩
/-- data that == may look at -/
def shp (n : Nat) (d : PyData) : Prop := d.canLay0 = true ∧ d.depth ≤ n
theorem shp.shaped {d : PyData} {n : Nat} (h : shp n d) (hn : n ≤ 64) : SeqAt.shaped d = true := by
  unfold SeqAt.shaped
  rw [h.1, Bool.true_and]
  exact decide_eq_true (Nat.le_trans h.2 hn)
theorem shp_int (i : Int) : shp 0 (.int i) := ⟨by simp [PyData.canLay0], by simp [PyData.depth]⟩
theorem shp_str {i : Str} (h : PyData.strOk i = true) : shp 0 (.str i) := ⟨by simp [PyData.canLay0, h], by simp [PyData.depth]⟩
theorem shp_list {n : Nat} {ds : List PyData} (h : ∀ d ∈ ds, shp n d) : shp (n + 1) (.list ds) :=
  ⟨by rw [PyData.canLay0]; exact lay_of_mem fun d hd => (h d hd).1, by rw [PyData.depth]; exact Nat.succ_le_succ (depth_of_mem fun d hd => (h d hd).2)⟩
theorem shp_tup {n : Nat} {ds : List PyData} (h : ∀ d ∈ ds, shp n d) : shp (n + 1) (.tuple ds) :=
  ⟨by rw [PyData.canLay0]; exact lay_of_mem fun d hd => (h d hd).1, by rw [PyData.depth]; exact Nat.succ_le_succ (depth_of_mem fun d hd => (h d hd).2)⟩
theorem shp_mono {n m : Nat} {d : PyData} (h : shp n d) (l : n ≤ m) : shp m d := ⟨h.1, Nat.le_trans h.2 l⟩
theorem shp_lint (ns : List Int) : shp 1 (lint ns) := shp_list fun d hd => by
  obtain ⟨i, _, rfl⟩ := List.mem_map.mp hd
  exact shp_int i
theorem shaped_lint (ns : List Int) : SeqAt.shaped (lint ns) = true := (shp_lint ns).shaped (by decide)
section
variable {K : Fg} {δ : Dn} {ta tb : TE}
theorem ed_eqL {a b : List Int} (ha : ED K ta δ (lint a)) (hb : ED K tb δ (lint b)) : ED K (tOp (rEqD K) ta tb) δ (.bool (decide (a = b))) :=
  (ed_op ha hb (rd_eqD (shaped_lint a) (shaped_lint b))).is (by rw [eqv_lint])
theorem ed_neL {a b : List Int} (ha : ED K ta δ (lint a)) (hb : ED K tb δ (lint b)) : ED K (tOp (rNeD K) ta tb) δ (.bool (!decide (a = b))) :=
  (ed_op ha hb (rd_neD (shaped_lint a) (shaped_lint b))).is (by rw [eqv_lint])
theorem ed_eqSelf {d : PyData} {n : Nat} (ha : ED K ta δ d) (hb : ED K tb δ d) (h : shp n d) (hn : n ≤ 64) : ED K (tOp (rEqD K) ta tb) δ (.bool true) :=
  (ed_op ha hb (rd_eqD (h.shaped hn) (h.shaped hn))).is (by rw [PySem.SeqAt.eqv_refl d h.1])
theorem ed_neSelf {d : PyData} {n : Nat} (ha : ED K ta δ d) (hb : ED K tb δ d) (h : shp n d) (hn : n ≤ 64) : ED K (tOp (rNeD K) ta tb) δ (.bool false) :=
  (ed_op ha hb (rd_neD (h.shaped hn) (h.shaped hn))).is (by rw [PySem.SeqAt.eqv_refl d h.1]; rfl)
end
end U

namespace U
open PySem PySem.Spec PyProof.Rows L2
/-! ### list(reversed(xs)), xs a list -/
section
variable {prog : Program} {w : World} {A : Around} {E : Value → Shared → Prop} {s : Shared}
/-- the new list at N takes what the backward iterator at it gives -/
theorem ext_rev {R : Result → Shared → Prop} {it l N : Addr} {items : Array Value} {c0 : Nat} {res : Value} (hh : A.handled = none) (hI : s.heap.IsRevIter it l ((items.size : Int) - 1)) (hL : s.heap.IsList l items) (nli : l ≠ it) (hz : items.size ≤ sizeLine)
    (hN : s.heap.get? N = some { cls := .type "list", data := .seq #[] c0 }) (nNi : N ≠ it) (nNl : N ≠ l)
    (hR : ∀ h' tk acc c', (∀ b o, b ≠ N → b ≠ it → s.heap.get? b = some o → h'.get? b = some o) → h'.get? N = some { cls := .type "list", dict := none, data := .seq acc c', slots := #[] } →
      ItemsOf (fun i v => items[items.size - 1 - i]? = some v) acc items.size → R (.ok (.ret res)) { s with heap := h', toks := tk }) :
    wpAny (model prog w) A.in1 (Builtin.List.listExtendWith (.ref N) (.ref it) res)
      (fun fin s' => match fin with | .done f => R (.ok f) s' | .again c' => c'.quiet = true ∧ codeAny (model prog w) A c' R s') (fun e s' => R (.error e) s') s := by
  have W0 := Walks.listRev (prog := prog) (w := w) (A := A.in1) hh it l nli items
  have WS := W0.toS
  have out : N ∉ [it, l] := by
    simp only [List.mem_cons, List.not_mem_nil, or_false, not_or]
    exact ⟨nNi, nNl⟩
  have ty : s.TypeIs (.ref it) "list_reverseiterator" := hI.typeIs
  have sref : Builtin.List.listSameRef (.ref N) (.ref it) = false := by
    simp [Builtin.List.listSameRef, nNi]
  unfold Builtin.List.listExtendWith
  refine wpAny_bind (wpAny_typeOf ty ?_)
  rw [if_neg (show ¬ _ from by rw [sref]; decide)]
  refine wpAny_bind (wpAny_pyIter_revIter hI (wpAny_bind (wpAny_holding ?_)))
  unfold Builtin.List.listLengthHint
  refine wpAny_bind (wpAny_specialOf ty RT.nolen_lri ?_)
  show wpAny _ A.in1 (specialOf (Value.ref it) (Str.ofString "__length_hint__") >>= _) _ _ s
  refine wpAny_bind (wpAny_specialOf ty RT.hint_lri ?_)
  generalize hq : ("list_reverseiterator.__length_hint__" : String) = nm
  wp_delta
  rw [show splitId nm = some ("list_reverseiterator", "__length_hint__") from by rw [← hq]; decide +kernel]
  rw [← hq]
  refine wpAny_bind (wpAny_isInstance (b := true) ty (by rw [isSubtype_type]; kernel_rfl) (wpAny_pure ?_))
  rw [if_neg (show ¬ _ from by decide)]
  have e0 : ((items.size : Nat) : Int) - 1 - ((0 : Nat) : Int) = (items.size : Int) - 1 := by omega
  refine wpAny_pure ⟨plainId_quiet F.plain_extend_loop _, ?_⟩
  refine codeAny_extend_loopS WS hz N out _ items.size 0 _ _ _ rfl (Nat.zero_le _) ⟨Nat.zero_le _, by rw [e0]; exact hI, hL⟩ hN (ItemsOf.nil _) fun s' acc c' mv hN' got => ?_
  rw [Moved.eq_with mv]
  refine hR s'.heap s'.toks acc c' (fun b o b1 b2 e => mv.heap b o (fun hm => ?_) e) hN' got
  rcases List.mem_cons.mp hm with q | q
  · exact b1 q
  · exact b2 (List.mem_singleton.mp q)
theorem call_list_rev {Q : Value → Shared → Prop} {it l : Addr} {items : Array Value} (hh : A.handled = none) (hI : s.heap.IsRevIter it l ((items.size : Int) - 1)) (hL : s.heap.IsList l items) (nli : l ≠ it) (hz : items.size ≤ sizeLine)
    (hQ : ∀ h' tk acc c', (∀ b o, b ≠ it → s.heap.get? b = some o → h'.get? b = some o) → h'.get? s.heap.objs.size = some { cls := .type "list", dict := none, data := .seq acc c', slots := #[] } →
      ItemsOf (fun i v => items[items.size - 1 - i]? = some v) acc items.size → Q (.ref s.heap.objs.size) { s with heap := h', toks := tk }) :
    wpAny (model prog w) A (call (.type "list") [.ref it]) Q E s := by
  have lti : it < s.heap.objs.size := by
    obtain ⟨o, ho, _⟩ := hI
    exact Heap.lt_size ho
  have ltl : l < s.heap.objs.size := by
    obtain ⟨o, ho, _⟩ := hL
    exact Heap.lt_size ho
  refine callType_codes (Q₁ := fun obj s₁ => obj = .ref s.heap.objs.size ∧ s₁ = { s with heap := s.heap.push { cls := .type "list", data := .seq #[] } }) PySem.F.called_list
    (PySem.F.typeCall_list_1 _) PySem.F.entry_list_init (code_list_new _ ⟨rfl, rfl⟩) fun obj s₁ h₁ => ?_
  obtain ⟨rfl, rfl⟩ := h₁
  have hN : (s.heap.push { cls := .type "list", data := .seq #[] }).get? s.heap.objs.size = some { cls := .type "list", data := .seq #[] } := Heap.get?_push_size _ rfl
  refine ⟨⟨_, hN, rfl⟩, PySem.F.args_list_init_2 _ _, ?_⟩
  show wpAny _ _ (do let old ← Builtin.List.listItems (.ref s.heap.objs.size); Builtin.List.listUpdate (.ref s.heap.objs.size) (fun _ => #[]); letGo old.toList.reverse; Builtin.List.listExtendWith (.ref s.heap.objs.size) (.ref it) .none) _ _ _
  refine wpAny_bind ?_
  unfold Builtin.List.listItems
  refine wpAny_bind (wpAny_seqItems hN rfl (wpAny_pure ?_))
  show wpAny _ _ (updateSeq s.heap.objs.size (fun _ => #[]) >>= fun _ => letGo (#[] : Array Value).toList.reverse >>= fun _ => Builtin.List.listExtendWith (.ref s.heap.objs.size) (.ref it) .none) _ _ _
  refine wpAny_bind (wpAny_updateSeq hN rfl ?_)
  have hN2 := Heap.get?_update_self (Obj.mapSeq (fun _ => (#[] : Array Value))) hN rfl
  have oth : ∀ b o, s.heap.get? b = some o → ((s.heap.push { cls := .type "list", data := .seq #[] }).update s.heap.objs.size (Obj.mapSeq (fun _ => (#[] : Array Value)))).get? b = some o := fun b o e =>
    (Heap.get?_update_other _ _ (Nat.ne_of_gt (Heap.lt_size e))).trans (Heap.get?_push_of_some _ e)
  refine wpAny_bind (wpAny_letGo ?_)
  refine ext_rev hh (hI.at fun o e => oth it o e) ?_ nli hz hN2 (Nat.ne_of_gt lti) (Nat.ne_of_gt ltl) (fun h' tk acc c' kp hN' got => ?_)
  · obtain ⟨o, ho, r⟩ := hL
    exact ⟨o, oth l o ho, r⟩
  · exact ⟨rfl, hQ h' tk acc c' (fun b o hb e => kp b o (Nat.ne_of_lt (Heap.lt_size e)) hb (oth b o e)) hN' got⟩
end
def tListRev (K : Fg) (te : TE) : TE := fun σ H Q => te σ H fun v H1 => ∃ (a : Addr) (xs : List V), v = .ref a ∧ SqL K H1 a xs ∧ ∀ q, H1 q = none → Q (.ref q) (upd H1 q (.lst xs.reverse))
section
variable {X : Cx}
theorem pe_listRev0 {e : Expr} {te : TE} {p p2 pos pos2 : Pos} (hc : X.calm = true) (hg : Gl X "list") (hm : X.mg "list" = none) (hg2 : Gl X "reversed") (hm2 : X.mg "reversed" = none) (he : PE X e te)
    (hs : starEach [e] X.env = (false, eval e X.env) :: starEach [] X.env := by rfl)
    (hs2 : starEach [.Call (.Name "reversed" p2) [e] [] pos2] X.env = (false, eval (.Call (.Name "reversed" p2) [e] [] pos2) X.env) :: starEach [] X.env := by rfl) :
    PE X (.Call (.Name "list" p) [.Call (.Name "reversed" p2) [e] [] pos2] [] pos) (tListRev X.K te) := by
  refine ⟨fun pins s σ H Q I h => ?_⟩
  refine Call_ (ld_blt I hg hm boot_list (PyProof.Rows.callWith_type1 (args_cons (Call_ (ld_blt I hg2 hm2 PyProof.Rows.boot_reversed
    (PyProof.Rows.callWith_type1 (args_cons (thn (he.run pins s σ H _ I h) fun u s1 ⟨v, H1, I1, r1, q1⟩ => args_nil ?_) hs) hs rfl))) hs2) hs2 rfl))
  obtain ⟨a, xs, ev, hq, q⟩ := q1
  subst ev
  obtain rfl : u = Value.ref a := r1
  obtain ⟨its, rv, p', hz⟩ := I1.list hq
  refine call_reversed_list p'.isList (args_nil ?_)
  have I2 : Inv X pins σ H1 { s1 with heap := s1.heap.push (revObj a ((its.toArray.size : Int) - 1)) } := I1.kept (t' := s1.toks) fun b o e => Heap.get?_push_of_some _ e
  obtain ⟨f0, f1, f2, f3, f4, f5⟩ := I1.fpOk (H' := H1) (b := s1.heap.objs.size) (Nat.le_refl _) (I1.hok.fresh (Nat.le_refl _))
  have hl := p'.isList
  obtain ⟨ol, hol, _⟩ := id hl
  have hne : a ≠ s1.heap.objs.size := Nat.ne_of_lt (Heap.lt_size hol)
  have hn : its.toArray.size ≤ sizeLine := by rw [List.size_toArray, ← rv.length]; exact hz
  refine call_list_rev (s := { s1 with heap := s1.heap.push (revObj a ((its.toArray.size : Int) - 1)) }) (I1.ok.hd hc) ⟨_, Heap.get?_push_size _ rfl, rfl, rfl⟩ (hl.push _) hne hn fun h' tk acc c' hk hN hi => ?_
  have big : s1.heap.objs.size ≤ (s1.heap.push (revObj a ((its.toArray.size : Int) - 1))).objs.size := by rw [Heap.size_push]; exact Nat.le_succ _
  have fr : H1 (s1.heap.push (revObj a ((its.toArray.size : Int) - 1))).objs.size = none := I1.hok.fresh big
  refine ⟨.ref _, upd H1 (s1.heap.push (revObj a ((its.toArray.size : Int) - 1))).objs.size (.lst xs.reverse), ?_, rfl, q _ fr⟩
  refine I1.laid (t' := tk) (fun b o e => hk b o (Nat.ne_of_lt (Heap.lt_size e)) (Heap.get?_push_of_some _ e)) big ⟨by rw [List.length_reverse]; exact hz, acc.toList, c', RT.vals_rev rv hi, ?_⟩
  rw [Array.toArray_toList]
  exact hN
theorem pe_listRev (K : Fg) {e : Expr} {te : TE} {p p2 pos pos2 : Pos} (h : X.K = K) (hc : X.calm = true) (hg : Gl X "list") (hm : X.mg "list" = none) (hg2 : Gl X "reversed") (hm2 : X.mg "reversed" = none) (he : PE X e te)
    (hs : starEach [e] X.env = (false, eval e X.env) :: starEach [] X.env := by rfl)
    (hs2 : starEach [.Call (.Name "reversed" p2) [e] [] pos2] X.env = (false, eval (.Call (.Name "reversed" p2) [e] [] pos2) X.env) :: starEach [] X.env := by rfl) :
    PE X (.Call (.Name "list" p) [.Call (.Name "reversed" p2) [e] [] pos2] [] pos) (tListRev K te) := by
  subst h
  exact pe_listRev0 hc hg hm hg2 hm2 he hs hs2
theorem ef_listRev {K : Fg} {δ : Dn} {te : TE} {ds : List PyData} (h : ED K te δ (.list ds)) : EF K (tListRev K te) δ ds.reverse := fun M H σ e rr Q q =>
  h M H σ e rr _ fun v M1 H1 g dv => by
    obtain ⟨p, xs, rfl, hp, hx⟩ := dv.lst_inv
    exact ⟨p, xs, rfl, SqL.of (g.mh _ _ hp), fun l hl => q l _ M1 _ (g.trans (Gr.hid g.mh hl)) (Evl.fresh_back g.hh hl) (ex_none g.mh hl) upd_same hx.reverse⟩
end
end U

namespace U
open PySem PySem.Spec PyProof.Rows L2

/-! ### what the defs tell: plain functions -/
/-- how many states -/
def nst (w : Int) : Int := if w = 1 then 2 else if w = 2 then 4 else if w = 3 then 8 else 16
theorem nst_cases (w : Int) : nst w = 2 ∨ nst w = 4 ∨ nst w = 8 ∨ nst w = 16 := by
  unfold nst
  split
  · exact .inl rfl
  · split
    · exact .inr (.inl rfl)
    · split
      · exact .inr (.inr (.inl rfl))
      · exact .inr (.inr (.inr rfl))
theorem nst_pos (w : Int) : 2 ≤ nst w ∧ nst w ≤ 16 := by rcases nst_cases w with h | h | h | h <;> rw [h] <;> decide
theorem nst_at {w : Int} (h1 : 1 ≤ w) (h2 : w ≤ 4) : L2.atI [PyData.int 2, .int 4, .int 8, .int 16] (w - 1) = some (.int (nst w)) := by
  have h : w = 1 ∨ w = 2 ∨ w = 3 ∨ w = 4 := by omega
  rcases h with rfl | rfl | rfl | rfl <;> rfl
def at' (l : List Int) (s : Int) : Int := l.getD s.toNat 0
theorem at'_get {l : List Int} {s : Int} (h0 : 0 ≤ s) (h : s < l.length) : L2.atI (l.map PyData.int) s = some (.int (at' l s)) := by
  have hl : s.toNat < l.length := by omega
  refine atI_ofNat h0 ?_
  rw [List.getElem?_map, List.getElem?_eq_getElem hl]
  unfold at'
  rw [List.getD_eq_getElem?_getD, List.getElem?_eq_getElem hl]
  rfl
theorem at'_getElem {l : List Int} {s : Int} (h0 : 0 ≤ s) (h : s < l.length) : l[s.toNat]? = some (at' l s) := by
  have hl : s.toNat < l.length := by omega
  unfold at'
  rw [List.getD_eq_getElem?_getD, List.getElem?_eq_getElem hl]
  rfl
/-- a shuffle of the numbers below n -/
def Shuf (n : Int) (l : List Int) : Prop := l.Perm (irg 0 n)
theorem Shuf.length {n : Int} {l : List Int} (h : Shuf n l) : l.length = n.toNat := by rw [List.Perm.length_eq h, irg_length, Int.sub_zero]
theorem Shuf.mem {n : Int} {l : List Int} (h : Shuf n l) {x : Int} : x ∈ l ↔ 0 ≤ x ∧ x < n := by rw [List.Perm.mem_iff h, mem_irg]
theorem irg_nodup (lo hi : Int) : (irg lo hi).Nodup := by
  unfold irg
  rw [List.nodup_iff_pairwise_ne, List.pairwise_map]
  refine List.Pairwise.imp ?_ List.nodup_range
  intro a b h e
  exact h (by omega)
theorem Shuf.nodup {n : Int} {l : List Int} (h : Shuf n l) : l.Nodup := (List.Perm.nodup_iff h).mpr (irg_nodup 0 n)
theorem perm_of_sub : ∀ {a b : List Int}, a.Nodup → (∀ x ∈ a, x ∈ b) → b.length ≤ a.length → a.Perm b
  | [], b, _, _, h => by
    have : b = [] := List.eq_nil_of_length_eq_zero (by simpa using h)
    subst this
    exact List.Perm.nil
  | x :: a, b, hn, hs, hl => by
    have hx : x ∈ b := hs x List.mem_cons_self
    rw [List.nodup_cons] at hn
    refine List.Perm.trans (List.Perm.cons x (perm_of_sub (b := b.erase x) hn.2 (fun y hy => ?_) ?_)) (List.perm_cons_erase hx).symm
    · have ny : y ≠ x := fun e => hn.1 (e ▸ hy)
      exact (List.mem_erase_of_ne ny).mpr (hs y (List.mem_cons_of_mem _ hy))
    · rw [List.length_erase_of_mem hx]
      simp only [List.length_cons] at hl
      omega
theorem perm_eraseIdx {α : Type} {l : List α} {i : Nat} (h : i < l.length) : (l[i] :: l.eraseIdx i).Perm l := by
  have e : l.take i ++ l[i] :: l.drop (i + 1) = l := by rw [List.getElem_cons_drop, List.take_append_drop]
  rw [List.eraseIdx_eq_take_drop_succ]
  conv => rhs; rw [← e]
  exact List.perm_middle.symm
/-- the other way round: a list of the right length, within, without twice -/
theorem shuf_of {n : Int} {l : List Int} (hl : l.length = n.toNat) (hm : ∀ x ∈ l, 0 ≤ x ∧ x < n) (hn : l.Nodup) : Shuf n l := by
  refine perm_of_sub hn (fun x hx => mem_irg.mpr (hm x hx)) ?_
  rw [irg_length, Int.sub_zero, hl]
  exact Nat.le_refl _
theorem irg_sorted (lo hi : Int) : (irg lo hi).Pairwise (· ≤ ·) := by
  unfold irg
  rw [List.pairwise_map]
  refine List.Pairwise.imp ?_ List.pairwise_lt_range
  intro a b h
  omega
theorem sorted_uniq : ∀ {a b : List Int}, a.Perm b → a.Pairwise (· ≤ ·) → b.Pairwise (· ≤ ·) → a = b := fun p ha hb =>
  List.Perm.eq_of_pairwise (fun x y _ _ h1 h2 => Int.le_antisymm h1 h2) ha hb p
/-- behind: by the one, then by the other -/
def comp (one other : List Int) : List Int := one.map (at' other)
/-- contrary -/
def cont (l : List Int) : List Int := (irg 0 l.length).map fun s => ((l.idxOf s : Nat) : Int)

/-! ### the law's draws -/
def cellv (ns : List Int) (k : Int) : Int := ns.getD k.toNat 0
def drawv (c k b : Int) : Int :=
  let s1 := (c % 2147483647 + 977 * k + 1) * 48271 % 2147483647
  let s2 := s1 * s1 % 2147483629
  let s3 := (s2 + 40692 * (k + 3)) * 69621 % 2147483647
  s3 / 8 % b
theorem drawv_lt (c k : Int) {b : Int} (h : 0 < b) : 0 ≤ drawv c k b ∧ drawv c k b < b := ⟨Int.emod_nonneg _ (by omega), Int.emod_lt_of_pos _ h⟩
/-- the items popped at drawn places -/
def popped (c : Int) : Nat → Int → List Int → List Int → List Int
  | 0, _, _, found => found
  | m + 1, k, left, found => popped c m (k + 1) (left.eraseIdx (drawv c k 1000003 % left.length).toNat) (found ++ [at' left (drawv c k 1000003 % left.length)])
def swapL (l : List Int) (a b : Int) : List Int := (l.set a.toNat (at' l b)).set b.toNat (at' l a)
def swaps (ns : List Int) (f many : Int) : Nat → Int → List Int → List Int
  | 0, _, l => l
  | m + 1, k, l => swaps ns f many m (k + 1) (swapL l (cellv ns (f + 2 + k) % many) (cellv ns (f + 2 + k) / 16 % many))
def shufv (ns : List Int) (f w : Int) : List Int :=
  let many := nst w
  let cell := cellv ns f
  let f0 := popped (cellv ns (f + 1)) many.toNat 0 (irg 0 many) []
  let f1 := if cell % 4 = 1 then swaps ns f many (1 + cell / 4 % 3).toNat 0 (irg 0 many) else f0
  if cell % 4 = 2 then (irg 0 many).map fun s => (s + cell / 4 % many) % many else f1
theorem popped_perm (c : Int) : ∀ (m : Nat) (k : Int) (left found : List Int), left.length = m → (popped c m k left found).Perm (found ++ left)
  | 0, k, left, found, h => by
    have : left = [] := List.eq_nil_of_length_eq_zero h
    subst this
    simp [popped]
  | m + 1, k, left, found, h => by
    have hb : 0 ≤ drawv c k 1000003 % left.length ∧ drawv c k 1000003 % left.length < left.length := ⟨Int.emod_nonneg _ (by omega), Int.emod_lt_of_pos _ (by omega)⟩
    have hl : (drawv c k 1000003 % left.length).toNat < left.length := by omega
    unfold popped
    refine (popped_perm c m _ _ _ (by rw [List.length_eraseIdx, if_pos hl, h]; rfl)).trans ?_
    rw [List.append_assoc]
    refine List.Perm.append_left _ ?_
    have e : at' left (drawv c k 1000003 % left.length) = left[(drawv c k 1000003 % left.length).toNat] := by
      have := at'_getElem hb.1 hb.2
      rw [List.getElem?_eq_getElem hl] at this
      exact (Option.some.inj this).symm
    rw [e]
    exact perm_eraseIdx hl
theorem length_swapL (l : List Int) (a b : Int) : (swapL l a b).length = l.length := by simp [swapL]
theorem at'_toNat {l : List Int} {i : Nat} (h : i < l.length) : at' l (i : Int) = l[i] := by
  unfold at'
  rw [List.getD_eq_getElem?_getD, Int.toNat_natCast, List.getElem?_eq_getElem h]
  rfl
/-- what stands where after two entries were changed about -/
theorem swapL_at {l : List Int} {a b i : Int} (ha : 0 ≤ a ∧ a < l.length) (hb : 0 ≤ b ∧ b < l.length) (hi : 0 ≤ i ∧ i < l.length) : at' (swapL l a b) i = at' l (if i = a then b else if i = b then a else i) := by
  have e := at'_getElem (l := swapL l a b) hi.1 (by rw [length_swapL]; exact hi.2)
  have key : (swapL l a b)[i.toNat]? = some (at' l (if i = a then b else if i = b then a else i)) := by
    unfold swapL
    by_cases h2 : i = b
    · subst h2
      rw [List.getElem?_set_self (by rw [List.length_set]; omega)]
      by_cases h1 : i = a
      · subst h1; rw [if_pos rfl]
      · rw [if_neg h1, if_pos rfl]
    · rw [List.getElem?_set_ne (by omega)]
      by_cases h1 : i = a
      · subst h1
        rw [List.getElem?_set_self (by omega), if_pos rfl]
      · rw [List.getElem?_set_ne (by omega), if_neg h1, if_neg h2]
        exact at'_getElem hi.1 hi.2
  rw [e] at key
  exact Option.some.inj key
theorem swapL_perm {l : List Int} {a b : Int} (ha : 0 ≤ a ∧ a < l.length) (hb : 0 ≤ b ∧ b < l.length) : (swapL l a b).Perm l := by
  have h1 : a.toNat < l.length := by omega
  have h2 : b.toNat < l.length := by omega
  have ea : at' l a = l[a.toNat] := by have := at'_getElem ha.1 ha.2; rw [List.getElem?_eq_getElem h1] at this; exact (Option.some.inj this).symm
  have eb : at' l b = l[b.toNat] := by have := at'_getElem hb.1 hb.2; rw [List.getElem?_eq_getElem h2] at this; exact (Option.some.inj this).symm
  unfold swapL
  rw [ea, eb]
  exact List.set_set_perm h1 h2
theorem Shuf.swap {n : Int} {l : List Int} (h : Shuf n l) {a b : Int} (ha : 0 ≤ a ∧ a < n) (hb : 0 ≤ b ∧ b < n) : Shuf n (swapL l a b) := by
  have hl := h.length
  exact (swapL_perm (by omega) (by omega)).trans h
theorem shuf_irg (n : Int) : Shuf n (irg 0 n) := List.Perm.refl _
theorem swaps_shuf (ns : List Int) (f : Int) {many : Int} (h0 : 0 < many) : ∀ (m : Nat) (k : Int) (l : List Int), Shuf many l → Shuf many (swaps ns f many m k l)
  | 0, _, _, h => h
  | m + 1, k, l, h => swaps_shuf ns f h0 m _ _ (h.swap ⟨Int.emod_nonneg _ (by omega), Int.emod_lt_of_pos _ h0⟩ ⟨Int.emod_nonneg _ (by omega), Int.emod_lt_of_pos _ h0⟩)
theorem shufv_shuf (ns : List Int) (f w : Int) : Shuf (nst w) (shufv ns f w) := by
  have hn := nst_pos w
  unfold shufv
  simp only
  split
  · refine shuf_of (by rw [List.length_map, irg_length, Int.sub_zero]) (fun x hx => ?_) ?_
    · obtain ⟨y, _, rfl⟩ := List.mem_map.mp hx
      exact ⟨Int.emod_nonneg _ (by omega), Int.emod_lt_of_pos _ (by omega)⟩
    · rw [List.nodup_iff_pairwise_ne, List.pairwise_map]
      refine List.Pairwise.imp_of_mem ?_ (List.nodup_iff_pairwise_ne.mp (irg_nodup 0 (nst w)))
      intro a b ha hb hab e
      rw [mem_irg] at ha hb
      have h1 := Int.emod_emod_of_dvd (a + cellv ns f / 4 % nst w - (b + cellv ns f / 4 % nst w)) (Int.dvd_refl (nst w))
      have h2 : (a - b) % nst w = 0 := by
        have : (a + cellv ns f / 4 % nst w - (b + cellv ns f / 4 % nst w)) % nst w = 0 := Int.emod_eq_zero_of_dvd (Int.dvd_of_emod_eq_zero (by rw [Int.sub_emod, e, Int.sub_self]; simp))
        have e2 : a + cellv ns f / 4 % nst w - (b + cellv ns f / 4 % nst w) = a - b := by omega
        rwa [e2] at this
      have h3 := Int.dvd_of_emod_eq_zero h2
      obtain ⟨q, hq⟩ := h3
      have : q = 0 := by
        rcases Int.lt_trichotomy q 0 with h | h | h
        · have : nst w * q ≤ nst w * (-1) := Int.mul_le_mul_of_nonneg_left (by omega) (by omega)
          omega
        · exact h
        · have : nst w * 1 ≤ nst w * q := Int.mul_le_mul_of_nonneg_left (by omega) (by omega)
          omega
      subst this
      omega
  · split
    · exact swaps_shuf ns f (by omega) _ _ _ (shuf_irg _)
    · exact popped_perm _ _ _ _ _ (by rw [irg_length, Int.sub_zero])
end U

namespace U
open PySem PySem.Spec PyProof.Rows L2
/-! ### specs of the defs about shuffles -/
abbrev WOk (w : Int) : Prop := 1 ≤ w ∧ w ≤ 4
def S_asked_wires : Spec := fun ds r => ∃ w, ds = [.int w] ∧ WOk w ∧ r = .val .none
def S_states_of : Spec := fun ds r => ∃ w, ds = [.int w] ∧ WOk w ∧ r = .val (.int (nst w))
def S_asked_shuffle : Spec := fun ds r => ∃ w l, ds = [.int w, lint l] ∧ WOk w ∧ Shuf (nst w) l ∧ r = .val .none
def S_behind_by : Spec := fun ds r => ∃ a b, ds = [lint a, lint b] ∧ (∀ x ∈ a, 0 ≤ x ∧ x < (b.length : Int)) ∧ a.length ≤ 1000 ∧ r = .new ((comp a b).map .int)
def S_behind : Spec := fun ds r => ∃ w a b, ds = [.int w, lint a, lint b] ∧ WOk w ∧ Shuf (nst w) a ∧ Shuf (nst w) b ∧ r = .new ((comp a b).map .int)
def S_contrary : Spec := fun ds r => ∃ w a, ds = [.int w, lint a] ∧ WOk w ∧ Shuf (nst w) a ∧ r = .new ((cont a).map .int)
def S_law_cell_at : Spec := fun ds r => ∃ ns k, ds = [scrD ns, .int k] ∧ 0 ≤ k ∧ r = .val (.int (cellv ns k))
def S_law_draw : Spec := fun ds r => ∃ c k b, ds = [.int c, .int k, .int b] ∧ 0 < b ∧ r = .val (.int (drawv c k b))
def S_law_whole : Spec := fun ds r => ∃ i, ds = [.int i] ∧ r = .val (.bool true)
def S_law_is : Spec := fun ds r => ∃ a b, ds = [lint a, lint b] ∧ r = .val (.bool (decide (a = b)))
def S_law_shuffle_by : Spec := fun ds r => ∃ ns f w, ds = [scrD ns, .int f, .int w] ∧ 0 ≤ f ∧ WOk w ∧ r = .new ((shufv ns f w).map .int)
def S_law : Spec := fun ds r => ∃ ns, ds = [scrD ns] ∧ r = .val (.bool true)
end U

namespace U
open PySem PySem.Spec PyProof.Rows L2
/-! ### behind, contrary -/
theorem ext_at {a b : List Int} (hl : a.length = b.length) (h : ∀ i : Int, 0 ≤ i → i < a.length → at' a i = at' b i) : a = b := by
  apply List.ext_getElem hl
  intro i h1 h2
  have := h (i : Int) (by omega) (by omega)
  rwa [at'_toNat h1, at'_toNat h2] at this
theorem length_comp (a b : List Int) : (comp a b).length = a.length := by simp [comp]
theorem at'_comp {a b : List Int} {i : Int} (h0 : 0 ≤ i) (h : i < a.length) : at' (comp a b) i = at' b (at' a i) := by
  have h1 := at'_getElem (l := comp a b) h0 (by rw [length_comp]; exact h)
  unfold comp at h1
  rw [List.getElem?_map, at'_getElem h0 h] at h1
  exact (Option.some.inj h1).symm
theorem at'_map {g : Int → Int} {l : List Int} {i : Int} (h0 : 0 ≤ i) (h : i < l.length) : at' (l.map g) i = g (at' l i) := by
  have h1 := at'_getElem (l := l.map g) h0 (by rw [List.length_map]; exact h)
  rw [List.getElem?_map, at'_getElem h0 h] at h1
  exact (Option.some.inj h1).symm
theorem at'_irg {n i : Int} (h0 : 0 ≤ i) (h : i < n) : at' (irg 0 n) i = i := by
  have h1 := at'_getElem (l := irg 0 n) h0 (by rw [irg_length]; omega)
  rw [irg_get (by omega)] at h1
  have := Option.some.inj h1
  omega
theorem length_irg0 {n : Int} (h : 0 ≤ n) : ((irg 0 n).length : Int) = n := by rw [irg_length]; omega
theorem at'_mem {l : List Int} {i : Int} (h0 : 0 ≤ i) (h : i < l.length) : at' l i ∈ l := List.mem_of_getElem? (at'_getElem h0 h)
theorem Shuf.at_lt {n : Int} {l : List Int} (h : Shuf n l) {i : Int} (h0 : 0 ≤ i) (hi : i < n) : 0 ≤ at' l i ∧ at' l i < n := by
  have hl := h.length
  exact h.mem.mp (at'_mem h0 (by omega))
theorem idx_lt {l : List Int} {x : Int} (h : x ∈ l) : l.idxOf x < l.length := List.idxOf_lt_length_of_mem h
theorem at'_idx {l : List Int} {x : Int} (h : x ∈ l) : at' l (l.idxOf x : Nat) = x := by
  rw [at'_toNat (idx_lt h), List.getElem_idxOf]
theorem idx_at' {l : List Int} (hn : l.Nodup) {i : Int} (h0 : 0 ≤ i) (h : i < l.length) : ((l.idxOf (at' l i) : Nat) : Int) = i := by
  have hl : i.toNat < l.length := by omega
  have e : at' l i = l[i.toNat] := by
    have := at'_getElem h0 h
    rw [List.getElem?_eq_getElem hl] at this
    exact (Option.some.inj this).symm
  rw [e, List.Nodup.idxOf_getElem hn]
  omega
theorem length_cont (l : List Int) : (cont l).length = l.length := by simp [cont, irg_length]
theorem at'_cont {l : List Int} {i : Int} (h0 : 0 ≤ i) (h : i < l.length) : at' (cont l) i = (l.idxOf i : Nat) := by
  unfold cont
  rw [at'_map h0 (by rw [irg_length]; omega), at'_irg h0 h]
theorem cont_back {n : Int} {l : List Int} (h : Shuf n l) : comp l (cont l) = irg 0 n := by
  have hl := h.length
  by_cases hn : 0 ≤ n
  · refine ext_at (by rw [length_comp, irg_length]; omega) fun i h0 hi => ?_
    rw [length_comp] at hi
    have hb := h.at_lt h0 (by omega)
    rw [at'_comp h0 hi, at'_cont hb.1 (by omega), idx_at' h.nodup h0 hi, at'_irg h0 (by omega)]
  · have : l = [] := List.eq_nil_of_length_eq_zero (by omega)
    subst this
    have e : irg 0 n = [] := List.eq_nil_of_length_eq_zero (by rw [irg_length]; omega)
    rw [e]; rfl
theorem back_cont {n : Int} {l : List Int} (h : Shuf n l) : comp (cont l) l = irg 0 n := by
  have hl := h.length
  by_cases hn : 0 ≤ n
  · refine ext_at (by rw [length_comp, length_cont, irg_length]; omega) fun i h0 hi => ?_
    rw [length_comp] at hi
    rw [length_cont] at hi
    have hm : i ∈ l := h.mem.mpr ⟨h0, by omega⟩
    rw [at'_comp h0 (by rw [length_cont]; exact hi), at'_cont h0 hi, at'_idx hm, at'_irg h0 (by omega)]
  · have : l = [] := List.eq_nil_of_length_eq_zero (by omega)
    subst this
    have e : irg 0 n = [] := List.eq_nil_of_length_eq_zero (by rw [irg_length]; omega)
    rw [e]; rfl
theorem Shuf.of_inj {n : Int} {l : List Int} (hl : l.length = n.toNat) (hm : ∀ i, 0 ≤ i → i < n → 0 ≤ at' l i ∧ at' l i < n) (hi : ∀ i j, 0 ≤ i → i < n → 0 ≤ j → j < n → at' l i = at' l j → i = j) : Shuf n l := by
  refine shuf_of hl (fun x hx => ?_) ?_
  · obtain ⟨k, hk, rfl⟩ := List.getElem_of_mem hx
    rw [← at'_toNat hk]
    exact hm k (by omega) (by omega)
  · rw [List.nodup_iff_pairwise_ne, List.pairwise_iff_getElem]
    intro i j h1 h2 hij e
    have := hi i j (by omega) (by omega) (by omega) (by omega) (by rw [at'_toNat h1, at'_toNat h2]; exact e)
    omega
theorem Shuf.inj {n : Int} {l : List Int} (h : Shuf n l) {i j : Int} (hi : 0 ≤ i ∧ i < n) (hj : 0 ≤ j ∧ j < n) (e : at' l i = at' l j) : i = j := by
  have hl := h.length
  rw [← idx_at' h.nodup hi.1 (by omega), e, idx_at' h.nodup hj.1 (by omega)]
theorem Shuf.comp {n : Int} {a b : List Int} (ha : Shuf n a) (hb : Shuf n b) : Shuf n (comp a b) := by
  have hl := ha.length
  refine Shuf.of_inj (by rw [length_comp, hl]) (fun i h0 h => ?_) (fun i j h0 h g0 g e => ?_)
  · rw [at'_comp h0 (by omega)]
    have := ha.at_lt h0 h
    exact hb.at_lt this.1 this.2
  · rw [at'_comp h0 (by omega), at'_comp g0 (by omega)] at e
    exact ha.inj ⟨h0, h⟩ ⟨g0, g⟩ (hb.inj (ha.at_lt h0 h) (ha.at_lt g0 g) e)
theorem Shuf.cont {n : Int} {a : List Int} (ha : Shuf n a) : Shuf n (cont a) := by
  have hl := ha.length
  refine Shuf.of_inj (by rw [length_cont, hl]) (fun i h0 h => ?_) (fun i j h0 h g0 g e => ?_)
  · rw [at'_cont h0 (by omega)]
    have := idx_lt (ha.mem.mpr ⟨h0, h⟩)
    omega
  · rw [at'_cont h0 (by omega), at'_cont g0 (by omega)] at e
    have h1 := at'_idx (ha.mem.mpr ⟨h0, h⟩)
    have h2 := at'_idx (ha.mem.mpr ⟨g0, g⟩)
    rw [e, h2] at h1
    exact h1.symm
theorem comp_id {n : Int} {a : List Int} (ha : Shuf n a) : comp a (irg 0 n) = a := by
  have hl := ha.length
  refine ext_at (length_comp _ _) fun i h0 h => ?_
  rw [length_comp] at h
  have := ha.at_lt h0 (by omega)
  rw [at'_comp h0 h, at'_irg this.1 this.2]
theorem id_comp {n : Int} {a : List Int} (ha : Shuf n a) : comp (irg 0 n) a = a := by
  have hl := ha.length
  by_cases hn : 0 ≤ n
  · refine ext_at (by rw [length_comp, irg_length]; omega) fun i h0 h => ?_
    rw [length_comp, irg_length] at h
    rw [at'_comp h0 (by rw [irg_length]; omega), at'_irg h0 (by omega)]
  · have : a = [] := List.eq_nil_of_length_eq_zero (by omega)
    subst this
    have e : irg 0 n = [] := List.eq_nil_of_length_eq_zero (by rw [irg_length]; omega)
    rw [e]; rfl
theorem comp_assoc {n : Int} {a b c : List Int} (ha : Shuf n a) (hb : Shuf n b) : comp (comp a b) c = comp a (comp b c) := by
  have hl := ha.length
  have hl2 := hb.length
  refine ext_at (by simp [length_comp]) fun i h0 h => ?_
  rw [length_comp, length_comp] at h
  have := ha.at_lt h0 (by omega)
  rw [at'_comp h0 (by rw [length_comp]; exact h), at'_comp h0 h, at'_comp h0 h, at'_comp this.1 (by omega)]
/-- what the law's loop makes: the contrary one -/
theorem backs_eq {n : Int} {l b : List Int} (h : Shuf n l) (hl : b.length = l.length) (hb : ∀ j : Nat, j < l.length → at' b (at' l j) = j) : b = cont l := by
  have hn := h.length
  refine ext_at (by rw [hl, length_cont]) fun i h0 hi => ?_
  rw [hl] at hi
  have hm : i ∈ l := h.mem.mpr ⟨h0, by omega⟩
  rw [at'_cont h0 hi, ← hb _ (idx_lt hm), at'_idx hm]
theorem at'_set {b : List Int} {i j x : Int} (hi : 0 ≤ i ∧ i < b.length) (hj : 0 ≤ j ∧ j < b.length) : at' (b.set i.toNat x) j = if j = i then x else at' b j := by
  have h1 := at'_getElem (l := b.set i.toNat x) hj.1 (by rw [List.length_set]; exact hj.2)
  by_cases e : j = i
  · subst e
    rw [List.getElem?_set_self (by omega)] at h1
    rw [if_pos rfl]
    exact (Option.some.inj h1).symm
  · rw [List.getElem?_set_ne (by omega), at'_getElem hj.1 hj.2] at h1
    rw [if_neg e]
    exact (Option.some.inj h1).symm
theorem ixN_of {n : Nat} {i : Int} (h : 0 ≤ i ∧ i < n) : ixN n i = some i.toNat := by
  unfold ixN
  rw [if_pos h.1, if_pos h.2]
theorem wires_ok (c : Int) : WOk (1 + c % 4) := by
  have h1 := Int.emod_nonneg c (show (4 : Int) ≠ 0 by decide)
  have h2 := Int.emod_lt_of_pos c (show (0 : Int) < 4 by decide)
  exact ⟨by omega, by omega⟩
end U

namespace U
open PySem PySem.Spec PyProof.Rows L2
/-! ### gates and rows -/
inductive Gt where
  | turn (w : Int) (ws : List Int) | swap (a b : Int)
  deriving DecidableEq
def encG : Gt → PyData
  | .turn w ws => .tuple [.str "turn", .int w, .tuple (ws.map .int)]
  | .swap a b => .tuple [.str "swap", .int a, .int b]
abbrev encR (row : List Gt) : PyData := .list (row.map encG)
abbrev pws : List Int := [1, 2, 4, 8]
def isUp (s w : Int) : Bool := decide (s / at' pws w % 2 = 1)
def turnS (s w : Int) : Int := if isUp s w then s - at' pws w else s + at' pws w
def ledBy : Gt → Int → Int
  | .turn w ws, s => if ws.all (fun x => isUp s x) then turnS s w else s
  | .swap a b, s => if isUp s a != isUp s b then turnS (turnS s a) b else s
def ledThr (row : List Gt) (s : Int) : Int := row.foldl (fun t g => ledBy g t) s
def tableB (n : Int) (row : List Gt) : List Int := (irg 0 (nst n)).map (ledThr row)
/-- rising from b on, below n -/
def incrB (n : Int) : Int → List Int → Bool
  | _, [] => true
  | b, x :: xs => if x ≤ b ∨ x ≥ n then false else incrB n x xs
def isTurnB (n w : Int) (ws : List Int) : Bool := if w < 0 ∨ w ≥ n ∨ w ∈ ws then false else incrB n (-1) ws
/-- a gate of n wires -/
def vG (n : Int) : Gt → Bool
  | .turn w ws => isTurnB n w ws
  | .swap a b => decide (0 ≤ a) && (decide (a < b) && decide (b < n))
/-- wires within four -/
def gOk : Gt → Prop
  | .turn w ws => (0 ≤ w ∧ w < 4) ∧ (∀ x ∈ ws, 0 ≤ x ∧ x < 4) ∧ ws.length ≤ 4
  | .swap a b => (0 ≤ a ∧ a < 4) ∧ (0 ≤ b ∧ b < 4)
theorem incrB_mem {n : Int} : ∀ {ws : List Int} {b : Int}, incrB n b ws = true → ∀ x ∈ ws, b < x ∧ x < n
  | [], _, _, x, hx => by simp at hx
  | y :: ws, b, h, x, hx => by
    unfold incrB at h
    by_cases c : y ≤ b ∨ y ≥ n
    · rw [if_pos c] at h; cases h
    · rw [if_neg c] at h
      rcases List.mem_cons.mp hx with rfl | hx
      · omega
      · have := incrB_mem h x hx
        omega
theorem incrB_sorted {n : Int} : ∀ {ws : List Int} {b : Int}, incrB n b ws = true → ws.Pairwise (· < ·)
  | [], _, _ => .nil
  | y :: ws, b, h => by
    unfold incrB at h
    by_cases c : y ≤ b ∨ y ≥ n
    · rw [if_pos c] at h; cases h
    · rw [if_neg c] at h
      exact .cons (fun x hx => (incrB_mem h x hx).1) (incrB_sorted h)
theorem isTurnB_iff {n w : Int} {ws : List Int} : isTurnB n w ws = true ↔ (0 ≤ w ∧ w < n) ∧ w ∉ ws ∧ incrB n (-1) ws = true := by
  unfold isTurnB
  by_cases c : w < 0 ∨ w ≥ n ∨ w ∈ ws
  · rw [if_pos c]
    constructor
    · intro h; cases h
    · rintro ⟨h1, h2, _⟩
      rcases c with c | c | c
      · omega
      · omega
      · exact absurd c h2
  · rw [if_neg c]
    simp only [not_or] at c
    exact ⟨fun h => ⟨⟨by omega, by omega⟩, c.2.2, h⟩, fun h => h.2.2⟩
/-- all lists that are parts of l -/
def subs : List Int → List (List Int)
  | [] => [[]]
  | x :: xs => (subs xs).map (x :: ·) ++ subs xs
theorem mem_subs (p : Int → Bool) : ∀ l : List Int, l.filter p ∈ subs l
  | [] => by simp [subs]
  | x :: xs => by
    unfold subs
    rw [List.filter_cons]
    split
    · exact List.mem_append_left _ (List.mem_map.mpr ⟨_, mem_subs p xs, rfl⟩)
    · exact List.mem_append_right _ (mem_subs p xs)
theorem incr_sub {n : Int} {ws : List Int} (h : incrB n (-1) ws = true) : ws ∈ subs (irg 0 n) := by
  have e : ws = (irg 0 n).filter (fun x => decide (x ∈ ws)) := by
    have s1 := incrB_sorted h
    refine sorted_uniq (perm_of_sub (s1.imp (fun h => Int.ne_of_lt h)) (fun x hx => ?_) ?_) (s1.imp Int.le_of_lt) ((irg_sorted 0 n).filter _)
    · have := incrB_mem h x hx
      rw [List.mem_filter, mem_irg]
      exact ⟨by omega, decide_eq_true hx⟩
    · have hp : ((irg 0 n).filter (fun x => decide (x ∈ ws))).Nodup := (irg_nodup 0 n).filter _
      exact (perm_len hp fun x hx => of_decide_eq_true (List.mem_filter.mp hx).2)
  rw [e]
  exact mem_subs _ _
where
  perm_len {a b : List Int} (hn : a.Nodup) (h : ∀ x ∈ a, x ∈ b) : a.length ≤ b.length := by
    induction a generalizing b with
    | nil => simp
    | cons x a ih =>
      rw [List.nodup_cons] at hn
      have hx := h x List.mem_cons_self
      have := ih (b := b.erase x) hn.2 fun y hy => (List.mem_erase_of_ne (fun e : y = x => hn.1 (by subst e; exact hy))).mpr (h y (List.mem_cons_of_mem _ hy))
      rw [List.length_erase_of_mem hx] at this
      have := List.length_pos_of_mem hx
      simp only [List.length_cons]
      omega
def allG (n : Int) : List Gt := ((irg 0 n).flatMap fun w => (subs (irg 0 n)).flatMap fun ws => if w ∈ ws then [] else [Gt.turn w ws]) ++ (irg 0 n).flatMap fun a => (irg (a + 1) n).map fun b => Gt.swap a b
theorem vG_mem {n : Int} {g : Gt} (h : vG n g = true) : g ∈ allG n := by
  unfold allG
  cases g with
  | turn w ws =>
    obtain ⟨h1, h2, h3⟩ := isTurnB_iff.mp h
    refine List.mem_append_left _ (List.mem_flatMap.mpr ⟨w, mem_irg.mpr h1, List.mem_flatMap.mpr ⟨ws, incr_sub h3, ?_⟩⟩)
    rw [if_neg h2]
    exact List.mem_singleton.mpr rfl
  | swap a b =>
    unfold vG at h
    simp only [Bool.and_eq_true, decide_eq_true_eq] at h
    exact List.mem_append_right _ (List.mem_flatMap.mpr ⟨a, mem_irg.mpr ⟨h.1, by omega⟩, List.mem_map.mpr ⟨b, mem_irg.mpr ⟨by omega, h.2.2⟩, rfl⟩⟩)
/-- a look at all gates and states of n wires -/
def every (n : Int) (p : Gt → Int → Bool) : Bool := (allG n).all fun g => (irg 0 (nst n)).all fun s => p g s
theorem every_use {n : Int} {p : Gt → Int → Bool} (h : every n p = true) {g : Gt} {s : Int} (hg : vG n g = true) (hs : 0 ≤ s ∧ s < nst n) : p g s = true :=
  List.all_eq_true.mp (List.all_eq_true.mp h g (vG_mem hg)) s (mem_irg.mpr hs)
theorem w_cases {n : Int} (h : WOk n) : n = 1 ∨ n = 2 ∨ n = 3 ∨ n = 4 := by
  obtain ⟨h1, h2⟩ := h
  omega
theorem every4 {p : Int → Gt → Int → Bool} (h1 : every 1 (p 1) = true) (h2 : every 2 (p 2) = true) (h3 : every 3 (p 3) = true) (h4 : every 4 (p 4) = true) {n : Int} (hn : WOk n) {g : Gt} {s : Int} (hg : vG n g = true) (hs : 0 ≤ s ∧ s < nst n) : p n g s = true := by
  rcases w_cases hn with rfl | rfl | rfl | rfl
  · exact every_use h1 hg hs
  · exact every_use h2 hg hs
  · exact every_use h3 hg hs
  · exact every_use h4 hg hs
/-! the law's own step -/
def highL (n s : Int) : List Int := (irg 0 n).map fun w => s / at' pws w % 2
def highAfter (n : Int) (g : Gt) (s : Int) : List Int := match g with
  | .swap a b => swapL (highL n s) a b
  | .turn w ws => if (ws.filter fun x => decide (at' (highL n s) x = 0)).length = 0 then (highL n s).set w.toNat (1 - at' (highL n s) w) else highL n s
def stepL (n : Int) (g : Gt) (s : Int) : Int := ((irg 0 n).map fun w => at' (highAfter n g s) w * at' pws w).sum
def tabL (n : Int) (row : List Gt) : List Int := row.foldl (fun t g => t.map (stepL n g)) (irg 0 (nst n))
def okS (n : Int) (g : Gt) (s : Int) : Bool := decide (stepL n g s = ledBy g s) && (decide (0 ≤ ledBy g s) && (decide (ledBy g s < nst n) && decide (ledBy g (ledBy g s) = s)))
theorem okS1 : every 1 (okS 1) = true := by decide +kernel
theorem okS2 : every 2 (okS 2) = true := by decide +kernel
theorem okS3 : every 3 (okS 3) = true := by decide +kernel
theorem okS4 : every 4 (okS 4) = true := by decide +kernel
structure GS (n : Int) (g : Gt) (s : Int) : Prop where
  step : stepL n g s = ledBy g s
  lo : 0 ≤ ledBy g s
  hi : ledBy g s < nst n
  back : ledBy g (ledBy g s) = s
theorem gs_of {n : Int} (hn : WOk n) {g : Gt} {s : Int} (hg : vG n g = true) (hs : 0 ≤ s ∧ s < nst n) : GS n g s := by
  have h := every4 (p := okS) okS1 okS2 okS3 okS4 hn hg hs
  unfold okS at h
  simp only [Bool.and_eq_true, decide_eq_true_eq] at h
  exact ⟨h.1, h.2.1, h.2.2.1, h.2.2.2⟩
abbrev VR (n : Int) (row : List Gt) : Prop := ∀ g ∈ row, vG n g = true
theorem ledThr_in {n : Int} (hn : WOk n) : ∀ {row : List Gt} {s : Int}, VR n row → 0 ≤ s ∧ s < nst n → 0 ≤ ledThr row s ∧ ledThr row s < nst n
  | [], _, _, hs => hs
  | g :: row, s, hr, hs => by
    have h := gs_of hn (hr g List.mem_cons_self) hs
    exact ledThr_in hn (row := row) (fun g' h' => hr g' (List.mem_cons_of_mem _ h')) ⟨h.lo, h.hi⟩
theorem ledThr_app (a b : List Gt) (s : Int) : ledThr (a ++ b) s = ledThr b (ledThr a s) := by
  unfold ledThr
  rw [List.foldl_append]
theorem tabL_eq {n : Int} (hn : WOk n) : ∀ {row : List Gt}, VR n row → ∀ {t : List Int}, (∀ s ∈ t, 0 ≤ s ∧ s < nst n) → row.foldl (fun t g => t.map (stepL n g)) t = t.map (ledThr row)
  | [], _, t, _ => by
    show t = t.map (fun s => s)
    rw [List.map_id']
  | g :: row, hr, t, ht => by
    have hg := hr g List.mem_cons_self
    have e : t.map (stepL n g) = t.map (ledBy g) := List.map_congr_left fun s hs => (gs_of hn hg (ht s hs)).step
    show row.foldl _ (t.map (stepL n g)) = _
    rw [e, tabL_eq hn (fun g' h' => hr g' (List.mem_cons_of_mem _ h')) (fun s hs => ?_), List.map_map]
    · rfl
    · obtain ⟨u, hu, rfl⟩ := List.mem_map.mp hs
      have := gs_of hn hg (ht u hu)
      exact ⟨this.lo, this.hi⟩
theorem tabL_tableB {n : Int} (hn : WOk n) {row : List Gt} (hr : VR n row) : tabL n row = tableB n row := tabL_eq hn hr fun s hs => mem_irg.mp hs
theorem length_tableB (n : Int) (row : List Gt) : (tableB n row).length = (nst n).toNat := by simp [tableB, irg_length]
theorem at'_tableB {n : Int} {row : List Gt} {s : Int} (hs : 0 ≤ s ∧ s < nst n) : at' (tableB n row) s = ledThr row s := by
  unfold tableB
  rw [at'_map hs.1 (by rw [irg_length]; omega), at'_irg hs.1 hs.2]
/-! ### undone -/
theorem ledThr_back {n : Int} (hn : WOk n) : ∀ {row : List Gt} {s : Int}, VR n row → 0 ≤ s ∧ s < nst n → ledThr row.reverse (ledThr row s) = s
  | [], _, _, _ => rfl
  | g :: row, s, hr, hs => by
    have hg := gs_of hn (hr g List.mem_cons_self) hs
    rw [List.reverse_cons, ledThr_app]
    show ledThr [g] (ledThr row.reverse (ledThr row (ledBy g s))) = s
    rw [ledThr_back hn (fun g' h' => hr g' (List.mem_cons_of_mem _ h')) ⟨hg.lo, hg.hi⟩]
    exact hg.back
theorem VR.reverse {n : Int} {row : List Gt} (h : VR n row) : VR n row.reverse := fun g hg => h g (List.mem_reverse.mp hg)
theorem VR.app {n : Int} {a b : List Gt} (ha : VR n a) (hb : VR n b) : VR n (a ++ b) := fun g hg => (List.mem_append.mp hg).elim (ha g) (hb g)
theorem tableB_shuf {n : Int} (hn : WOk n) {row : List Gt} (hr : VR n row) : Shuf (nst n) (tableB n row) := by
  refine Shuf.of_inj (length_tableB n row) (fun i h0 h => ?_) (fun i j h0 h g0 g e => ?_)
  · rw [at'_tableB ⟨h0, h⟩]
    exact ledThr_in hn hr ⟨h0, h⟩
  · rw [at'_tableB ⟨h0, h⟩, at'_tableB ⟨g0, g⟩] at e
    have h1 := ledThr_back hn hr ⟨h0, h⟩
    have h2 := ledThr_back hn hr ⟨g0, g⟩
    rw [← h1, e, h2]
theorem tableB_app {n : Int} (hn : WOk n) {a b : List Gt} (ha : VR n a) : tableB n (a ++ b) = comp (tableB n a) (tableB n b) := by
  refine ext_at (by rw [length_comp, length_tableB, length_tableB]) fun i h0 h => ?_
  rw [length_tableB] at h
  have hi : 0 ≤ i ∧ i < nst n := ⟨h0, by omega⟩
  rw [at'_tableB hi, at'_comp h0 (by rw [length_tableB]; exact h), at'_tableB hi, at'_tableB (ledThr_in hn ha hi), ledThr_app]
theorem tableB_nil (n : Int) : tableB n [] = irg 0 (nst n) := by
  unfold tableB
  show (irg 0 (nst n)).map (fun s => s) = _
  rw [List.map_id']
theorem vG_gOk {n : Int} (hn : WOk n) {g : Gt} (h : vG n g = true) : gOk g := by
  have h4 := hn.2
  cases g with
  | turn w ws =>
    obtain ⟨h1, h2, h3⟩ := isTurnB_iff.mp h
    refine ⟨⟨h1.1, by omega⟩, fun x hx => ?_, ?_⟩
    · have := incrB_mem h3 x hx
      omega
    · have hm : ws.length ≤ (irg 0 n).length := incr_sub.perm_len ((incrB_sorted h3).imp (fun h => Int.ne_of_lt h)) fun x hx => by
        have := incrB_mem h3 x hx
        rw [mem_irg]
        omega
      rw [irg_length] at hm
      omega
  | swap a b =>
    unfold vG at h
    simp only [Bool.and_eq_true, decide_eq_true_eq] at h
    exact ⟨⟨h.1, by omega⟩, ⟨by omega, by omega⟩⟩
/-! ### data -/
theorem shp_encG (g : Gt) : shp 2 (encG g) := by
  cases g with
  | turn w ws =>
    refine shp_tup fun d hd => ?_
    simp only [List.mem_cons, List.not_mem_nil, or_false] at hd
    rcases hd with rfl | rfl | rfl
    · exact shp_mono (shp_str (by decide +kernel)) (by decide)
    · exact shp_mono (shp_int w) (by decide)
    · exact shp_tup fun d hd => by
        obtain ⟨i, _, rfl⟩ := List.mem_map.mp hd
        exact shp_int i
  | swap a b =>
    refine shp_tup fun d hd => ?_
    simp only [List.mem_cons, List.not_mem_nil, or_false] at hd
    rcases hd with rfl | rfl | rfl
    · exact shp_mono (shp_str (by decide +kernel)) (by decide)
    · exact shp_mono (shp_int _) (by decide)
    · exact shp_mono (shp_int _) (by decide)
theorem shp_encR (row : List Gt) : shp 3 (encR row) := shp_list fun d hd => by
  obtain ⟨g, _, rfl⟩ := List.mem_map.mp hd
  exact shp_encG g
theorem eqvAll_tup : ∀ (a b : List Int), PyData.eqv (.tuple (a.map .int)) (.tuple (b.map .int)) = decide (a = b) := fun a b => by
  rw [PyData.eqv, eqvAll_ints]
theorem eqv_encG : ∀ a b : Gt, PyData.eqv (encG a) (encG b) = decide (a = b)
  | .turn w ws, .turn v vs => by
    simp only [encG, PyData.eqv, PyData.eqvAll, eqvAll_ints, Gt.turn.injEq]
    by_cases h1 : w = v <;> by_cases h2 : ws = vs <;> simp [h1, h2]
  | .swap a b, .swap c d => by
    simp only [encG, PyData.eqv, PyData.eqvAll, Gt.swap.injEq]
    by_cases h1 : a = c <;> by_cases h2 : b = d <;> simp [h1, h2]
  | .turn w ws, .swap c d => by
    simp only [encG, PyData.eqv, PyData.eqvAll]
    have : ((Str.ofString "turn") == (Str.ofString "swap")) = false := by decide +kernel
    rw [this]
    simp
  | .swap c d, .turn w ws => by
    simp only [encG, PyData.eqv, PyData.eqvAll]
    have : ((Str.ofString "swap") == (Str.ofString "turn")) = false := by decide +kernel
    rw [this]
    simp
theorem eqvAll_encR : ∀ (a b : List Gt), PyData.eqvAll (a.map encG) (b.map encG) = decide (a = b)
  | [], [] => by simp [PyData.eqvAll]
  | [], _ :: _ => by simp [PyData.eqvAll]
  | _ :: _, [] => by simp [PyData.eqvAll]
  | x :: a, y :: b => by
    simp only [List.map_cons, PyData.eqvAll, eqv_encG, eqvAll_encR a b, List.cons.injEq]
    by_cases h : x = y <;> simp [h]
theorem fz_encG (g : Gt) : fz (encG g) = true := by
  cases g with
  | turn w ws =>
    simp only [encG, fz, fzA, Bool.true_and, Bool.and_true]
    rw [fzA_iff]
    intro d hd
    obtain ⟨i, _, rfl⟩ := List.mem_map.mp hd
    rfl
  | swap a b => simp [encG, fz, fzA]
theorem fzA_encG (row : List Gt) : fzA (row.map encG) = true := by
  rw [fzA_iff]
  intro d hd
  obtain ⟨g, _, rfl⟩ := List.mem_map.mp hd
  exact fz_encG g
theorem fzA_ints (l : List Int) : fzA (l.map .int) = true := by
  rw [fzA_iff]
  intro d hd
  obtain ⟨g, _, rfl⟩ := List.mem_map.mp hd
  rfl
section
variable {K : Fg} {δ : Dn} {ta tb : TE}
theorem ed_eqR {a b : List Gt} (ha : ED K ta δ (encR a)) (hb : ED K tb δ (encR b)) : ED K (tOp (rEqD K) ta tb) δ (.bool (decide (a = b))) :=
  (ed_op ha hb (rd_eqD ((shp_encR a).shaped (by decide)) ((shp_encR b).shaped (by decide)))).is (by rw [PyData.eqv, eqvAll_encR])
theorem ed_neR {a b : List Gt} (ha : ED K ta δ (encR a)) (hb : ED K tb δ (encR b)) : ED K (tOp (rNeD K) ta tb) δ (.bool (!decide (a = b))) :=
  (ed_op ha hb (rd_neD ((shp_encR a).shaped (by decide)) ((shp_encR b).shaped (by decide)))).is (by rw [PyData.eqv, eqvAll_encR])
theorem ed_eqG {a b : Gt} (ha : ED K ta δ (encG a)) (hb : ED K tb δ (encG b)) : ED K (tOp (rEqD K) ta tb) δ (.bool (decide (a = b))) :=
  (ed_op ha hb (rd_eqD ((shp_encG a).shaped (by decide)) ((shp_encG b).shaped (by decide)))).is (by rw [eqv_encG])
end
/-! ### the law's draws of gates -/
def othersL (n w : Int) : List Int := (irg 0 n).filter fun o => !decide (o = w)
def gateBy (c n most : Int) : Gt :=
  let w := c / 7 % n
  let others := othersL n w
  if c % 4 = 1 ∧ n > 1 then
    let o := at' others (c / 64 % others.length)
    .swap (if o < w then o else w) (if o > w then o else w)
  else
    let watched := if c % 4 = 3 then others else others.filter fun o => decide (c / 64 / (1 + 2 * o) % 2 = 1)
    .turn w (watched.take most.toNat)
def rowBy (ns : List Int) (first n most : Int) : List Gt :=
  let c := cellv ns first
  let r0 := (irg 0 (c % 13)).map fun k => gateBy (drawv (cellv ns (first + 1)) k 1000003) n most
  let r1 := if c / 13 % 3 = 1 then r0 ++ (irg 0 4).map fun k => gateBy (cellv ns (first + 2 + k)) n most else r0
  if c / 39 % 4 = 1 then r1 ++ (r1.drop 2).reverse else r1
theorem incr_of {n : Int} : ∀ {ws : List Int} {b : Int}, ws.Pairwise (· < ·) → (∀ x ∈ ws, b < x ∧ x < n) → incrB n b ws = true
  | [], _, _, _ => rfl
  | y :: ws, b, h, hm => by
    have h1 := hm y List.mem_cons_self
    unfold incrB
    rw [if_neg (by omega)]
    rw [List.pairwise_cons] at h
    exact incr_of h.2 fun x hx => ⟨h.1 x hx, (hm x (List.mem_cons_of_mem _ hx)).2⟩
theorem irg_lt (lo hi : Int) : (irg lo hi).Pairwise (· < ·) := by
  unfold irg
  rw [List.pairwise_map]
  refine List.Pairwise.imp ?_ List.pairwise_lt_range
  intro a b h
  omega
theorem mem_others {n w x : Int} : x ∈ othersL n w ↔ (0 ≤ x ∧ x < n) ∧ x ≠ w := by
  unfold othersL
  rw [List.mem_filter, mem_irg]
  simp
theorem gateBy_ok {n : Int} (hn : WOk n) (c most : Int) : vG n (gateBy c n most) = true := by
  obtain ⟨hn1, hn2⟩ := hn
  have hw : 0 ≤ c / 7 % n ∧ c / 7 % n < n := ⟨Int.emod_nonneg _ (by omega), Int.emod_lt_of_pos _ (by omega)⟩
  unfold gateBy
  simp only
  by_cases h : c % 4 = 1 ∧ n > 1
  · rw [if_pos h]
    have hne : othersL n (c / 7 % n) ≠ [] := by
      intro e
      by_cases z : c / 7 % n = 0
      · have : (1 : Int) ∈ othersL n (c / 7 % n) := mem_others.mpr ⟨⟨by decide, by omega⟩, by omega⟩
        rw [e] at this; cases this
      · have : (0 : Int) ∈ othersL n (c / 7 % n) := mem_others.mpr ⟨⟨by decide, by omega⟩, by omega⟩
        rw [e] at this; cases this
    have hl := List.length_pos_iff.mpr hne
    have hi : 0 ≤ c / 64 % ((othersL n (c / 7 % n)).length : Int) ∧ c / 64 % ((othersL n (c / 7 % n)).length : Int) < (othersL n (c / 7 % n)).length := ⟨Int.emod_nonneg _ (by omega), Int.emod_lt_of_pos _ (by omega)⟩
    have hm := mem_others.mp (at'_mem hi.1 hi.2)
    generalize at' (othersL n (c / 7 % n)) (c / 64 % ((othersL n (c / 7 % n)).length : Int)) = o at hm ⊢
    unfold vG
    simp only [Bool.and_eq_true, decide_eq_true_eq]
    by_cases z : o < c / 7 % n
    · rw [if_pos z, if_neg (by omega)]
      exact ⟨by omega, by omega, by omega⟩
    · rw [if_neg z, if_pos (by omega)]
      exact ⟨by omega, by omega, by omega⟩
  · rw [if_neg h]
    have key : ∀ l : List Int, l.Sublist (othersL n (c / 7 % n)) → vG n (.turn (c / 7 % n) l) = true := fun l hs => by
      refine isTurnB_iff.mpr ⟨hw, fun hm => (mem_others.mp (hs.subset hm)).2 rfl, incr_of (List.Pairwise.sublist hs ((irg_lt 0 n).filter _)) fun x hx => ?_⟩
      have := (mem_others.mp (hs.subset hx)).1
      omega
    refine key _ ((List.take_sublist _ _).trans ?_)
    split
    · exact List.Sublist.refl _
    · exact List.filter_sublist
theorem rowBy_ok {n : Int} (hn : WOk n) (ns : List Int) (first most : Int) : VR n (rowBy ns first n most) := by
  have k0 : ∀ f : Int → Int, ∀ l : List Int, VR n (l.map fun k => gateBy (f k) n most) := fun f l g hg => by
    obtain ⟨k, _, rfl⟩ := List.mem_map.mp hg
    exact gateBy_ok hn _ _
  unfold rowBy
  simp only
  have k1 : VR n (if cellv ns first / 13 % 3 = 1 then ((irg 0 (cellv ns first % 13)).map fun k => gateBy (drawv (cellv ns (first + 1)) k 1000003) n most) ++ (irg 0 4).map fun k => gateBy (cellv ns (first + 2 + k)) n most else (irg 0 (cellv ns first % 13)).map fun k => gateBy (drawv (cellv ns (first + 1)) k 1000003) n most) := by
    split
    · exact (k0 _ _).app (k0 (fun k => cellv ns (first + 2 + k)) _)
    · exact k0 _ _
  split
  · exact VR.app k1 (VR.reverse fun g hg => k1 g (List.mem_of_mem_drop hg))
  · exact k1
theorem rowBy_len (ns : List Int) (first n most : Int) : (rowBy ns first n most).length ≤ 30 := by
  have h1 := Int.emod_nonneg (cellv ns first) (show (13 : Int) ≠ 0 by decide)
  have h2 := Int.emod_lt_of_pos (cellv ns first) (show (0 : Int) < 13 by decide)
  unfold rowBy
  simp only
  have k1 : (if cellv ns first / 13 % 3 = 1 then ((irg 0 (cellv ns first % 13)).map fun k => gateBy (drawv (cellv ns (first + 1)) k 1000003) n most) ++ (irg 0 4).map fun k => gateBy (cellv ns (first + 2 + k)) n most else (irg 0 (cellv ns first % 13)).map fun k => gateBy (drawv (cellv ns (first + 1)) k 1000003) n most).length ≤ 16 := by
    split
    · rw [List.length_append, List.length_map, List.length_map, irg_length, irg_length]
      omega
    · rw [List.length_map, irg_length]
      omega
  split
  · rw [List.length_append, List.length_reverse, List.length_drop]
    omega
  · omega
theorem pw_lt {w : Int} (h : 0 ≤ w ∧ w < 4) : 0 < at' pws w ∧ at' pws w < 1073741824 := by
  obtain ⟨h0, h1⟩ := h
  have : w = 0 ∨ w = 1 ∨ w = 2 ∨ w = 3 := by omega
  rcases this with rfl | rfl | rfl | rfl <;> decide
theorem pw_mul {w : Int} (h : 0 ≤ w ∧ w < 4) : -(2 ^ 64) < at' pws w ∧ at' pws w < 2 ^ 64 := by
  have := pw_lt h
  omega
theorem cutD_to {ds : List PyData} {m : Int} (h : 0 ≤ m) : cutD ds none (some m) = ds.take m.toNat := by
  unfold cutD
  have e1 : HT.sIx ds.length 0 none = 0 := rfl
  have e2 : HT.sIx ds.length ds.length (some m) = min m.toNat ds.length := by
    show (if m < 0 then (m + (ds.length : Int)).toNat else min m.toNat ds.length) = _
    rw [if_neg (by omega)]
  rw [e1, e2, List.drop_zero, Nat.sub_zero]
  by_cases c : m.toNat ≤ ds.length
  · rw [Nat.min_eq_left c]
  · rw [Nat.min_eq_right (by omega), List.take_length, List.take_of_length_le (by omega)]
theorem cutD_from {ds : List PyData} {k : Int} (h : 0 ≤ k) : cutD ds (some k) none = ds.drop k.toNat := by
  unfold cutD
  have e1 : HT.sIx ds.length ds.length none = ds.length := rfl
  have e2 : HT.sIx ds.length 0 (some k) = min k.toNat ds.length := by
    show (if k < 0 then (k + (ds.length : Int)).toNat else min k.toNat ds.length) = _
    rw [if_neg (by omega)]
  rw [e1, e2]
  by_cases c : k.toNat ≤ ds.length
  · rw [Nat.min_eq_left c, List.take_of_length_le (by rw [List.length_drop]; omega)]
  · rw [Nat.min_eq_right (by omega), List.drop_length, List.drop_of_length_le (by omega), List.take_nil]
/-! ### specs -/
def S_is_turn : Spec := fun ds r => ∃ n w ws, ds = [.int n, .int w, .tuple (ws.map .int)] ∧ r = .val (.bool (isTurnB n w ws))
def S_is_gate : Spec := fun ds r => ∃ n g, ds = [.int n, encG g] ∧ r = .val (.bool (vG n g))
def S_asked_row : Spec := fun ds r => ∃ n row, ds = [.int n, encR row] ∧ WOk n ∧ row.length ≤ 1000 ∧ VR n row ∧ r = .val .none
def S_is_up : Spec := fun ds r => ∃ s w, ds = [.int s, .int w] ∧ (0 ≤ w ∧ w < 4) ∧ r = .val (.bool (isUp s w))
def S_turned : Spec := fun ds r => ∃ s w, ds = [.int s, .int w] ∧ (0 ≤ w ∧ w < 4) ∧ r = .val (.int (turnS s w))
def S_led_by : Spec := fun ds r => ∃ g s, ds = [encG g, .int s] ∧ gOk g ∧ r = .val (.int (ledBy g s))
def S_led_through : Spec := fun ds r => ∃ row s, ds = [encR row, .int s] ∧ (∀ g ∈ row, gOk g) ∧ r = .val (.int (ledThr row s))
def S_led : Spec := fun ds r => ∃ n row s, ds = [.int n, encR row, .int s] ∧ WOk n ∧ row.length ≤ 1000 ∧ VR n row ∧ r = .val (.int (ledThr row s))
def S_table_by : Spec := fun ds r => ∃ n row, ds = [.int n, encR row] ∧ WOk n ∧ (∀ g ∈ row, gOk g) ∧ r = .new ((tableB n row).map .int)
def S_table_of : Spec := fun ds r => ∃ n row, ds = [.int n, encR row] ∧ WOk n ∧ row.length ≤ 1000 ∧ VR n row ∧ r = .new ((tableB n row).map .int)
def S_undone : Spec := fun ds r => ∃ n row, ds = [.int n, encR row] ∧ WOk n ∧ row.length ≤ 1000 ∧ VR n row ∧ r = .new (row.reverse.map encG)
def S_law_gate_by : Spec := fun ds r => ∃ c n m, ds = [.int c, .int n, .int m] ∧ WOk n ∧ (0 ≤ m ∧ m ≤ 3) ∧ r = .val (encG (gateBy c n m))
def S_law_row_by : Spec := fun ds r => ∃ ns f n m, ds = [scrD ns, .int f, .int n, .int m] ∧ 0 ≤ f ∧ WOk n ∧ (0 ≤ m ∧ m ≤ 3) ∧ r = .new ((rowBy ns f n m).map encG)
def S_law_step : Spec := fun ds r => ∃ n g s, ds = [.int n, encG g, .int s] ∧ WOk n ∧ vG n g = true ∧ r = .val (.int (stepL n g s))
def S_law_table : Spec := fun ds r => ∃ n row, ds = [.int n, encR row] ∧ WOk n ∧ VR n row ∧ r = .val (lint (tabL n row))
end U

namespace U
open PySem PySem.Spec PyProof.Rows L2
section
variable {K : Fg} {te ta tb : TE} {tt : TT} {tr : TA} {ρ : List Sl} {d a b c : PyData} {ds es as : List PyData} {S : Spec} {X : XK} {r : R2}
/-! ### rules by slots: each part is weighed by itself -/
theorem EDS.is (h : EDS K te ρ a) (e : a = b) : EDS K te ρ b := e ▸ h
theorem EFS.is (h : EFS K te ρ ds) (e : ds = es) : EFS K te ρ es := e ▸ h
theorem EFS.eds (h : EFS K te ρ ds) : EDS K te ρ (.list ds) := fun M0 H0 M H σ r Q q =>
  h M0 H0 M H σ r Q fun p xs M2 H2 g n1 n2 ho hs => q (.ref p) (upd M2 p (.lst xs)) H2 (g.show_ n1 n2 ho) (.lst upd_same (hs.mono (Evl.Ex.new n2)))
theorem eas_nil : EAS K tNil ρ [] := fun M0 H0 M H σ r Q q => q [] M H (Gr.refl r.gr.mh) .nil
theorem eas_cons (h : EDS K ta ρ a) (hr : EAS K tr ρ ds) : EAS K (tCons ta tr) ρ (a :: ds) := fun M0 H0 M H σ r Q q =>
  h M0 H0 M H σ r _ fun x M1 H1 g1 dx => hr M0 H0 M1 H1 σ (r.grow g1) _ fun vs M2 H2 g2 dvs => q (x :: vs) M2 H2 (g1.trans g2) (.cons (dx.mono g2.mm) dvs)
theorem eas_one (h : EDS K ta ρ a) : EAS K (tCons ta tNil) ρ [a] := eas_cons h eas_nil
theorem efs_lst (h : EAS K tr ρ ds) (hl : Nat.ble ds.length 1000 = true := by rfl) : EFS K (tLst tr) ρ ds := fun M0 H0 M H σ r Q q =>
  h M0 H0 M H σ r _ fun vs M1 H1 g1 dvs => ⟨Evl.sz_of (by rw [dvs.length]; have := Nat.le_of_ble_eq_true hl; omega), fun p hp =>
    q p vs M1 _ (g1.trans (Gr.hid g1.mh hp)) (Evl.fresh_back g1.hh hp) (ex_none g1.mh hp) upd_same dvs⟩
theorem eds_tup (h : EAS K tr ρ ds) (hl : Nat.ble ds.length 1000 = true := by rfl) : EDS K (tTup tr) ρ (.tuple ds) := fun M0 H0 M H σ r Q q =>
  h M0 H0 M H σ r _ fun vs M1 H1 g1 dvs => ⟨Evl.sz_of (by rw [dvs.length]; have := Nat.le_of_ble_eq_true hl; omega), fun p hp => q (.ref p) (upd M1 p (.tup vs)) _ (g1.trans (Gr.new g1.mh hp)) (.tup upd_same (dvs.mono (Evl.Ex.new (ex_none g1.mh hp))))⟩
theorem eds_cb {rc : List V → Hp → VK → Prop} (h : EAS K tr ρ ds) (hr : CD K rc ds c) : EDS K (tCB rc tr) ρ c := fun M0 H0 M H σ r Q q =>
  h M0 H0 M H σ r _ fun vs M1 H1 g1 dvs => hr M1 H1 vs g1.mh dvs Q fun v M2 H2 g2 dv => q v M2 H2 (g1.trans g2) dv
theorem efs_cb {rc : List V → Hp → VK → Prop} (h : EAS K tr ρ ds) (hr : CF K rc ds es) : EFS K (tCB rc tr) ρ es := fun M0 H0 M H σ r Q q =>
  h M0 H0 M H σ r _ fun vs M1 H1 g1 dvs => hr M1 H1 vs g1.mh dvs Q fun p xs M2 H2 g2 n1 n2 ho hs => q p xs M2 H2 (g1.trans g2) (Evl.fresh_back g1.hh n1) n2 ho hs
theorem eds_op (ha : EDS K ta ρ a) (hb : EDS K tb ρ b) (hr : RD K r a b c) : EDS K (tOp r ta tb) ρ c := fun M0 H0 M H σ rr Q q =>
  ha M0 H0 M H σ rr _ fun x M1 H1 g1 dx => hb M0 H0 M1 H1 σ (rr.grow g1) _ fun y M2 H2 g2 dy => hr M2 H2 x y g2.mh (dx.mono g2.mm) dy Q fun v M3 H3 g3 dv => q v M3 H3 (g1.trans (g2.trans g3)) dv
theorem efs_op (ha : EDS K ta ρ a) (hb : EDS K tb ρ b) (hr : RF K r a b ds) : EFS K (tOp r ta tb) ρ ds := fun M0 H0 M H σ rr Q q =>
  ha M0 H0 M H σ rr _ fun x M1 H1 g1 dx => hb M0 H0 M1 H1 σ (rr.grow g1) _ fun y M2 H2 g2 dy => hr M2 H2 x y g2.mh (dx.mono g2.mm) dy Q fun p xs M3 H3 g3 n1 n2 ho hs =>
    q p xs M3 H3 (g1.trans (g2.trans g3)) (Evl.fresh_back (g1.trans g2).hh n1) n2 ho hs
theorem eds_call (h : EAS K tr ρ as) (s : S as (.val d)) : EDS K (tCall (SpD K S) [] X tr) ρ d := fun M0 H0 M H σ e Q q =>
  h M0 H0 M H σ e _ fun vs M1 H1 g dvs => ⟨M1, as, .val d, g.mh, by rw [List.append_nil]; exact dvs, s, fun v M' H' g' dv => q v M' H' (g.trans g') dv⟩
theorem efs_call (h : EAS K tr ρ as) (s : S as (.new ds)) : EFS K (tCall (SpD K S) [] X tr) ρ ds := fun M0 H0 M H σ e Q q =>
  h M0 H0 M H σ e _ fun vs M1 H1 g dvs => ⟨M1, as, .new ds, g.mh, by rw [List.append_nil]; exact dvs, s, fun p xs M' H' g' n1 n2 hp dv => q p xs M' H' (g.trans g') (Evl.fresh_back g.hh n1) n2 hp dv⟩
end
section
variable {K : Fg} {M0 H0 : Hp} {t : TS} {ρ : List Sl} {E : DE} {ds : List PyData} {i : Nat}
/-- an own list that is not changed any more becomes a datum -/
theorem Rs.share {M H : Hp} {σ : L2.St} (r : Rs K M0 H0 M H σ ρ) (hi : ρ[i]? = some (.o ds)) : ∃ M', Ex M M' ∧ Rs K M0 H0 M' H σ (ρ.set i (.d (.list ds))) := by
  obtain ⟨p, xs, h1, h2, h3, h4, h5⟩ := r.own i ds hi
  refine ⟨upd M p (.lst xs), Evl.Ex.new h3, r.gr.show_ h2 h3 h4, by simp [r.len], fun j d h => ?_, fun j es h => ?_, fun j k q es fs nik g1 g2 g3 g4 => ?_⟩
  · rcases get_set_cases h with ⟨rfl, e, hl⟩ | ⟨ne, h⟩
    · cases e
      exact ⟨_, h1, .lst upd_same (h5.mono (Evl.Ex.new h3))⟩
    · obtain ⟨v, k1, k2⟩ := r.dat j d h
      exact ⟨v, k1, k2.mono (Evl.Ex.new h3)⟩
  · rcases get_set_cases h with ⟨rfl, e, hl⟩ | ⟨ne, h⟩
    · cases e
    · obtain ⟨q, ys, k1, k2, k3, k4, k5⟩ := r.own j es h
      have nqp : q ≠ p := fun e => by
        subst e
        exact r.dis j i q es ds ne h hi k1 h1
      exact ⟨q, ys, k1, k2, by rw [upd_ne nqp]; exact k3, k4, k5.mono (Evl.Ex.new h3)⟩
  · rcases get_set_cases g1 with ⟨rfl, e, hl⟩ | ⟨ne1, g1⟩
    · cases e
    rcases get_set_cases g2 with ⟨rfl, e, hl⟩ | ⟨ne2, g2⟩
    · cases e
    exact r.dis j k q es fs nik g1 g2 g3 g4
theorem sd_share (hi : ρ[i]? = some (.o ds)) (h : SD K M0 H0 t (ρ.set i (.d (.list ds))) E) : SD K M0 H0 t ρ E := fun M H σ D r o => by
  obtain ⟨M', e, r'⟩ := r.share hi
  exact h M' H σ D r' (o.mono e)
end
end U

namespace U
open PySem PySem.Spec PyProof.Rows L2
section
variable {K : Fg} {δ : Dn} {ta tb te : TE} {d : PyData} {ds : List PyData}
/-- int(b), int(i) -/
theorem cd_intB {b : Bool} : CD K (fun xs H Q => (∃ i, xs = [.int i] ∧ Q (.int i) H) ∨ ∃ k, xs = [.bl k] ∧ Q (.int (if k then 1 else 0)) H) [.bool b] (.int (if b then 1 else 0)) := fun M H vs e dv Q q => by
  obtain ⟨v, r, rfl, h1, h2⟩ := dv.cons_inv
  obtain rfl := h2.nil_inv
  rw [h1.bl_inv]
  exact .inr ⟨b, rfl, q _ M H (Gr.refl e) (.int _)⟩
/-- is None -/
def isNn : PyData → Bool
  | .none => true
  | _ => false
theorem Dq.isN {M : Hp} {v : V} (h : Dq K M v d) : decide (v = .non) = isNn d := by
  cases h with
  | scr h => rfl
  | _ => rfl
theorem rd_isN : RD K (fun x y H Q => y = .non ∧ Q (.bl (decide (x = .non))) H) d .none (.bool (isNn d)) := fun M H x y e dx dy Q q => ⟨dy.non_inv, by rw [dx.isN]; exact q _ M H (Gr.refl e) (.bl _)⟩
theorem rd_notN : RD K (fun x y H Q => y = .non ∧ Q (.bl (!decide (x = .non))) H) d .none (.bool (!isNn d)) := fun M H x y e dx dy Q q => ⟨dy.non_inv, by rw [dx.isN]; exact q _ M H (Gr.refl e) (.bl _)⟩
end
end U

namespace U
open PySem PySem.Spec PyProof.Rows L2 TL
/-! ### texts, by their signs -/
abbrev ofL (l : List Nat) : Str := ⟨l.toArray⟩
abbrev sD (l : List Nat) : PyData := .str (ofL l)
theorem ofL_app (a b : List Nat) : ofL a ++ ofL b = ofL (a ++ b) := ext_tl (by rw [tl_append, tl_mk, tl_mk, tl_mk])
theorem ofL_len (a : List Nat) : (ofL a).length = a.length := by rw [len_tl, tl_mk]
theorem ofL_inj {a b : List Nat} (h : ofL a = ofL b) : a = b := by
  have : tl (ofL a) = tl (ofL b) := by rw [h]
  rwa [tl_mk, tl_mk] at this
theorem ofL_tl (x : Str) : ofL (tl x) = x := mk_tl x
theorem str_ofL (s : String) : Str.ofString s = ofL (s.toList.map Char.toNat) := ext_tl (by rw [tl_ofString, tl_mk])
theorem ofL_num {i : Int} (h : 0 ≤ i ∧ i < 10) : (Str.ofString (toString i)) = ofL [48 + i.toNat] := by
  obtain ⟨n, rfl⟩ := Int.eq_ofNat_of_zero_le h.1
  refine ext_tl ?_
  rw [tl_num, numL_lt (by omega), tl_mk, Int.toNat_natCast]
theorem ofL_join (s : List Nat) (ps : List (List Nat)) : Txt.join (ofL s) (ps.map ofL) = ofL (joinL s ps) := by
  rw [join_eq]
  refine ext_tl ?_
  rw [tl_join, tl_mk, tl_mk, List.map_map]
  congr 1
  exact List.map_id' ps
theorem ofL_split {s : Nat} (hs : s < 256) {ps : List (List Nat)} (hne : ps ≠ []) (hp : ∀ p ∈ ps, s ∉ p) : Txt.split (ofL (joinL [s] ps)) (ofL [s]) = ps.map ofL := by
  rw [← ofL_join]
  refine split_join (y := ofL [s]) (s := s) (S := []) rfl ?_ (by simpa using hne) fun p h => ?_
  · simp [ofL, hs]
  · obtain ⟨z, hz, rfl⟩ := List.mem_map.mp h
    exact hp z hz
theorem joinL_nil : ∀ ps : List (List Nat), joinL [] ps = ps.flatten
  | [] => rfl
  | [p] => by simp [joinL]
  | p :: q :: r => by
    show p ++ ([] ++ joinL [] (q :: r)) = _
    rw [joinL_nil (q :: r), List.nil_append, List.flatten_cons (l := p)]
theorem joinL_snoc (S : List Nat) : ∀ (ps : List (List Nat)) (p : List Nat), joinL S (ps ++ [p]) = if ps = [] then p else joinL S ps ++ (S ++ p)
  | [], p => rfl
  | [q], p => rfl
  | q :: q2 :: r, p => by
    rw [if_neg (by simp)]
    show q ++ (S ++ joinL S ((q2 :: r) ++ [p])) = q ++ (S ++ joinL S (q2 :: r)) ++ (S ++ p)
    rw [joinL_snoc S (q2 :: r) p, if_neg (by simp)]
    simp
theorem joinL_len (s : Nat) (b : Nat) : ∀ ps : List (List Nat), (∀ p ∈ ps, p.length ≤ b) → (joinL [s] ps).length ≤ ps.length * (b + 1)
  | [], _ => by simp [joinL]
  | [p], h => by
    have := h p List.mem_cons_self
    show p.length ≤ 1 * (b + 1)
    omega
  | p :: q :: r, h => by
    have h1 := h p List.mem_cons_self
    have h2 := joinL_len s b (q :: r) fun x hx => h x (List.mem_cons_of_mem _ hx)
    show (p ++ ([s] ++ joinL [s] (q :: r))).length ≤ ((q :: r).length + 1) * (b + 1)
    rw [List.length_append, List.length_append, Nat.succ_mul]
    show _ + (1 + _) ≤ _
    omega
theorem sum_le (b : Nat) : ∀ ps : List Nat, (∀ p ∈ ps, p ≤ b) → ps.sum ≤ ps.length * b
  | [], _ => by simp
  | p :: r, h => by
    have h1 := h p List.mem_cons_self
    have h2 := sum_le b r fun x hx => h x (List.mem_cons_of_mem _ hx)
    rw [List.sum_cons, List.length_cons, Nat.succ_mul]
    omega
theorem sz_line {n : Nat} (h : n ≤ 1000000) : n ≤ sizeLine := Nat.le_trans h (by decide)
section
variable {K : Fg} {δ : Dn} {ta tb te to : TE} {d : PyData} {ds : List PyData} {a b : List Nat}
theorem ed_strL {s : String} (h : s.toList.map Char.toNat = a) : ED K (tC (.str (Str.ofString s))) δ (sD a) := ED.is ed_str (by rw [str_ofL, h])
/-- str(i) -/
theorem cd_strI {i : Int} (h : 0 ≤ i ∧ i < 10) : CD K (fun xs H Q => ∃ i : Int, xs = [.int i] ∧ i.natAbs.log2 < 1920 ∧ Q (.str (Str.ofString (toString i))) H) [.int i] (sD [48 + i.toNat]) := fun M H vs e dv Q q => by
  obtain ⟨v, r, rfl, h1, h2⟩ := dv.cons_inv
  obtain rfl := h2.nil_inv
  rw [h1.int_inv]
  refine ⟨i, rfl, ?_, ?_⟩
  · have : i.natAbs < 10 := by omega
    have h3 : i.natAbs.log2 ≤ i.natAbs := Nat.log2_le_self _
    omega
  · rw [ofL_num h]
    exact q _ M H (Gr.refl e) (.str _)
/-- int(s), one sign -/
theorem cd_intS {x : Str} {n : Int} (h : PySem.intText? x = some n) (hl : x.length ≤ 640) : CD K (fun xs H Q => ∃ a n, xs = [.str a] ∧ PySem.intText? a = some n ∧ a.length ≤ 640 ∧ Q (.int n) H) [.str x] (.int n) := fun M H vs e dv Q q => by
  obtain ⟨v, r, rfl, h1, h2⟩ := dv.cons_inv
  obtain rfl := h2.nil_inv
  rw [h1.str_inv]
  exact ⟨x, n, rfl, h, hl, q _ M H (Gr.refl e) (.int _)⟩
theorem rd_addS (hl : a.length + b.length ≤ 1000000) : RD K (fun x y H Q => ∃ i j, x = .str i ∧ y = .str j ∧ i.length + j.length ≤ sizeLine ∧ Q (.str (i ++ j)) H) (sD a) (sD b) (sD (a ++ b)) := fun M H x y e dx dy Q q =>
  ⟨ofL a, ofL b, dx.str_inv, dy.str_inv, sz_line (by rw [ofL_len, ofL_len]; exact hl), by rw [ofL_app]; exact q _ M H (Gr.refl e) (.str _)⟩
theorem ed_addS (ha : ED K ta δ (sD a)) (hb : ED K tb δ (sD b)) (hl : a.length + b.length ≤ 1000000) : ED K (tOp (fun x y H Q => ∃ i j, x = .str i ∧ y = .str j ∧ i.length + j.length ≤ sizeLine ∧ Q (.str (i ++ j)) H) ta tb) δ (sD (a ++ b)) := ed_op ha hb (rd_addS hl)
theorem ed_ixS {i : Int} {c : Nat} (ha : ED K ta δ (sD a)) (hb : ED K tb δ (.int i)) (hl : a.length ≤ 1000000) (h : L2.atI a i = some c) : ED K (tOp rIxS ta tb) δ (sD [c]) := ed_op ha hb fun M H x y e dx dy Q q =>
  ⟨ofL a, i, c, dx.str_inv, dy.int_inv, sz_line (by rw [ofL_len]; exact hl), h, q _ M H (Gr.refl e) (.str _)⟩
def cutL (l : List Nat) (lo hi : Option Int) : List Nat := (l.drop (HT.sIx l.length 0 lo)).take (HT.sIx l.length l.length hi - HT.sIx l.length 0 lo)
theorem ed_slS {tl th : TO} {lo hi : Option Int} (h : ED K te δ (sD a)) (h1 : EO K tl δ lo) (h2 : EO K th δ hi) (hl : a.length ≤ 1000000) : ED K (tSl rSlS te tl th) δ (sD (cutL a lo hi)) := fun M H σ e rr Q q =>
  h M H σ e rr _ fun v M1 H1 g1 dv => h1 M1 H1 σ g1.mh (rr.mono g1.mm) _ fun M2 H2 g2 => h2 M2 H2 σ g2.mh (rr.mono (g1.trans g2).mm) _ fun M3 H3 g3 =>
    ⟨ofL a, dv.str_inv, sz_line (by rw [ofL_len]; exact hl), q _ M3 H3 ((g1.trans g2).trans g3) (by
      have e : cutS (ofL a) lo hi = ofL (cutL a lo hi) := by
        unfold cutS cutL
        rw [ofL_len]
      rw [e]
      exact .str _)⟩
theorem cutL_to {m : Int} (h : 0 ≤ m) : cutL a none (some m) = a.take m.toNat := by
  unfold cutL
  have e1 : HT.sIx a.length 0 none = 0 := rfl
  have e2 : HT.sIx a.length a.length (some m) = min m.toNat a.length := by
    show (if m < 0 then (m + (a.length : Int)).toNat else min m.toNat a.length) = _
    rw [if_neg (by omega)]
  rw [e1, e2, List.drop_zero, Nat.sub_zero]
  by_cases c : m.toNat ≤ a.length
  · rw [Nat.min_eq_left c]
  · rw [Nat.min_eq_right (by omega), List.take_length, List.take_of_length_le (by omega)]
theorem cutL_from {k : Int} (h : 0 ≤ k) : cutL a (some k) none = a.drop k.toNat := by
  unfold cutL
  have e1 : HT.sIx a.length a.length none = a.length := rfl
  have e2 : HT.sIx a.length 0 (some k) = min k.toNat a.length := by
    show (if k < 0 then (k + (a.length : Int)).toNat else min k.toNat a.length) = _
    rw [if_neg (by omega)]
  rw [e1, e2]
  by_cases c : k.toNat ≤ a.length
  · rw [Nat.min_eq_left c, List.take_of_length_le (by rw [List.length_drop]; omega)]
  · rw [Nat.min_eq_right (by omega), List.drop_length, List.drop_of_length_le (by omega), List.take_nil]
theorem ed_eqL2 (ha : ED K ta δ (sD a)) (hb : ED K tb δ (sD b)) : ED K (tOp rEq ta tb) δ (.bool (decide (a = b))) := ED.is (ed_eqS ha hb) (by
  by_cases h : a = b
  · rw [decide_eq_true h, decide_eq_true (by rw [h])]
  · rw [decide_eq_false h, decide_eq_false fun e => h (ofL_inj e)])
theorem ed_neL2 (ha : ED K ta δ (sD a)) (hb : ED K tb δ (sD b)) : ED K (tOp rNe ta tb) δ (.bool (!decide (a = b))) := ED.is (ed_neS ha hb) (by
  by_cases h : a = b
  · rw [decide_eq_true h, decide_eq_true (by rw [h])]
  · rw [decide_eq_false h, decide_eq_false fun e => h (ofL_inj e)])
/-- c in s, c not in s: one sign -/
theorem ed_nin {c : Nat} (ha : ED K ta δ (sD [c])) (hb : ED K tb δ (sD b)) : ED K (tOp (fun x y H Q => ∃ (c : Nat) (z : Str), x = .str ⟨#[c]⟩ ∧ y = .str z ∧ Q (.bl (!decide (c ∈ z.cps.toList))) H) ta tb) δ (.bool (!decide (c ∈ b))) := ed_op ha hb fun M H x y e dx dy Q q =>
  ⟨c, ofL b, dx.str_inv, dy.str_inv, q _ M H (Gr.refl e) (.bl _)⟩
/-- sep.join(xs) -/
theorem ed_join {ps : List (List Nat)} (ho : ED K to δ (sD a)) (he : ED K te δ (.list (ps.map sD))) (hl : (ps.map (·.length)).sum + ps.length * a.length ≤ 1000000) :
    ED K (tM1 (fun x xs H Q => ∃ a p, ∃ ys : List Str, x = .str a ∧ xs = [.ref p] ∧ (SqL K H p (ys.map V.str) ∨ SqT K H p (ys.map V.str)) ∧ (ys.map (·.length)).sum + ys.length * a.length ≤ 16777216 ∧ Q (.str (Txt.join a ys)) H) to te) δ (sD (joinL a ps)) := fun M H σ e rr Q q =>
  ho M H σ e rr _ fun v M1 H1 g1 dv => ⟨⟨_, dv.str_inv⟩, he M1 H1 σ g1.mh (rr.mono g1.mm) _ fun y M2 H2 g2 dy => by
    obtain ⟨p, xs, rfl, hp, hx⟩ := dy.lst_inv
    have e1 : ps.map sD = (ps.map ofL).map PyData.str := by rw [List.map_map]; rfl
    rw [e1] at hx
    rw [hx.strs] at hp
    refine ⟨ofL a, p, ps.map ofL, dv.str_inv, rfl, .inl (SqL.of (g2.mh _ _ hp)), ?_, ?_⟩
    · rw [List.map_map, List.length_map, ofL_len]
      have e2 : (List.length (α := Nat) : List Nat → Nat) = (fun x : Str => x.length) ∘ ofL := by
        funext l
        exact (ofL_len l).symm
      rw [← e2]
      exact Nat.le_trans hl (by decide)
    · rw [ofL_join]
      exact q _ M2 H2 (g1.trans g2) (.str _)⟩
/-- s.split(t) -/
theorem ef_split {x y : Str} (ho : ED K to δ (.str x)) (he : ED K te δ (.str y)) (h0 : (y.length == 0) = false) (hl : x.length ≤ 1000000) :
    EF K (tM1 (fun x xs H Q => ∃ a b, x = .str a ∧ xs = [.str b] ∧ (b.length == 0) = false ∧ a.length + 2 ≤ sizeLine ∧ rNewStrs (Txt.split a b) H Q) to te) δ ((Txt.split x y).map .str) := fun M H σ e rr Q q =>
  ho M H σ e rr _ fun v M1 H1 g1 dv => ⟨⟨_, dv.str_inv⟩, he M1 H1 σ g1.mh (rr.mono g1.mm) _ fun w M2 H2 g2 dw =>
    ⟨x, y, dv.str_inv, by rw [dw.str_inv], h0, Nat.le_trans (Nat.add_le_add_right hl 2) (by decide), fun p hp => q p _ M2 _ ((g1.trans g2).trans (Gr.hid g2.mh hp)) (Evl.fresh_back (g1.trans g2).hh hp) (ex_none g2.mh hp) upd_same DqA.of_strs⟩⟩
end
/-! ### for c in s -/
section
variable {K : Fg} {M0 H0 : Hp} {te : TE} {tb : TS} {ρ : List Sl} {E : DE} {j : Nat} {cs : List Nat}
theorem for_its {x : Str} {g : TG} {tb : TS} {D : Ends} {σ : L2.St} {H : Hp} (Pv : Nat → L2.St → Hp → Prop) (h0 : Pv 0 σ H)
    (hs : ∀ i c σ H, (tl x)[i]? = some c → Pv i σ H → g (.str ⟨#[c]⟩) σ H fun σ2 H2 => tb { D with nx := Pv (i + 1), ct := Pv (i + 1), bk := D.nx } σ2 H2) (hd : ∀ σ H, Pv (tl x).length σ H → D.nx σ H) :
    ∃ W : Nat → Nat → L2.St → Hp → Prop, (∃ m, W 0 m σ H) ∧ ∀ i m σ H, W i m σ H →
      ((Its x).stop i H ∧ D.nx σ H) ∨ ((Its x).go i H ∧ ∃ N : L2.St → Hp → Prop, (∀ σ' H', N σ' H' → ∃ m', m' < m ∧ W (i + 1) m' σ' H') ∧ ∀ v H', (Its x).yld i H v H' → g v σ H' fun σ2 H2 => tb { D with nx := N, ct := N, bk := D.nx } σ2 H2) := by
  have hsz : x.cps.size = (tl x).length := by simp [tl]
  refine ⟨fun i m σ H => m = (tl x).length - i ∧ i ≤ (tl x).length ∧ Pv i σ H, ⟨_, rfl, Nat.zero_le _, h0⟩, ?_⟩
  rintro i m σ H ⟨rfl, hi, p⟩
  by_cases hlt : i < (tl x).length
  · refine .inr ⟨show i < x.cps.size by omega, Pv (i + 1), fun σ' H' p' => ⟨(tl x).length - (i + 1), by omega, rfl, hlt, p'⟩, fun v H' y => ?_⟩
    obtain ⟨e, c, hc, e2⟩ := y
    subst e e2
    refine hs i c σ _ ?_ p
    rw [show tl x = x.cps.toList from rfl, Array.getElem?_toList]
    exact hc
  · have e : i = (tl x).length := by omega
    subst e
    exact .inl ⟨show x.cps.size ≤ _ by omega, hd σ H p⟩
theorem sd_forS (src : EDS K te ρ (sD cs)) (Pv : Nat → List Sl → Prop) (h0 : Pv 0 ρ) (hs : ∀ (i : Nat) (c : Nat) ρ', cs[i]? = some c → Pv i ρ' → SD K M0 H0 tb (ρ'.set j (.d (sD [c]))) { nx := Pv (i + 1), ct := Pv (i + 1), bk := E.nx, rt := E.rt })
    (hd : ∀ ρ', Pv cs.length ρ' → E.nx ρ') : SD K M0 H0 (tFor (iStr te) (gName j) tb) ρ E := fun M H σ D r o =>
  src M0 H0 M H σ r _ fun v M1 H1 g dv => ⟨ofL cs, dv.str_inv, for_its (fun i σ' H' => LpI K M0 H0 M1 (Pv i) σ' H') ⟨M1, ρ, Ex.refl _, r.grow g, h0⟩ (fun i c σ' H' hx I => lp_body (o.mono g.mm) I (fun M' e => .str _) (hs i c · hx)) (fun σ' H' I => lp_end (o.mono g.mm) I hd)⟩
end
end U

namespace U
open PySem PySem.Spec PyProof.Rows L2
/-! ### the handled exception, asked in a def that the suite calls -/
theorem call_isP {X : Cx} {a D : Addr} {oe : Obj} (cc : ExcC X.K D) (hp : (a, oe) ∈ X.pn) (hz : Zc (.ref D) none oe) (hf : ∃ vs, oe.data = .fields vs) : CallR X (.builtin "isinstance") (rIsE X.K D a) := by
  intro pins s σ H xs us Q I r h
  obtain ⟨c, cv, b, rfl, hcv, hk, q⟩ := h
  obtain ⟨u1, u2, rfl, r1, r2⟩ := vals2 r
  cases (show u1 = Value.ref a from r1)
  have e2 := hcv _ r2
  subst e2
  have hget := (I.pin (a, oe) (List.mem_append_left _ hp)).1
  have J : PySem.W.InstAt s.heap a oe D none := by
    obtain ⟨vs, hv⟩ := hf
    obtain ⟨k1, k2⟩ := hz
    obtain ⟨oc, od, oda, osl⟩ := oe
    have k1' : oc = Value.ref D := k1
    have k2' : od = none := k2
    have k3' : oda = .fields vs := hv
    subst k1' k2' k3'
    exact ⟨hget, rfl, rfl, trivial⟩
  refine PySem.W.kia_one (PySem.W.handS_kitx_exc cc.hg cc.hk cc.hs cc.hd cc.ha cc.hn cc.ht cc.hm) I.kIn J hk (fun z => nomatch z) fun tk => ?_
  exact ⟨.bl b, H, I.tok tk, rfl, q⟩
/-- list.count of flat things -/
def rCntF (K : Fg) : V → List V → Hp → VK → Prop := fun x xs H Q => ∃ (p : Addr) (ys : List V) (y : V), x = .ref p ∧ xs = [y] ∧ SqL K H p ys ∧ flatV y = true ∧ ys.all flatV = true ∧ Q (.int (ys.countP (fun z => eqV z y) : Nat)) H
theorem countP_eqU {y : V} : ∀ {ys : List V} {us : List Value}, Vals ys us → ys.all flatV = true → us.countP (eqU y) = ys.countP fun z => eqV z y
  | _, _, .nil, _ => rfl
  | _, _, .cons r rs, f => by
    rw [List.all_cons, Bool.and_eq_true] at f
    rw [List.countP_cons, List.countP_cons, countP_eqU rs f.2, eqU_of r f.1]
theorem mCountF {X : Cx} (K : Fg) (hK : X.K = K) : MtR X "list.count" (rCntF K) := by
  subst hK
  intro pins s σ H x xs v us Q I rx rxs h
  obtain ⟨p, ys, y, rfl, rfl, hs, fy, fys, q⟩ := h
  cases rx
  obtain ⟨u, rfl, ru⟩ := rxs.one
  obtain ⟨its, rv, ⟨⟨cls, dd, data, sl⟩, n, ho, hc, hdn, hd⟩, hlen⟩ := I.list hs
  have hc' : cls = .type "list" := hc
  have hd' : data = .seq its.toArray n := hd
  subst hc' hd'
  refine call_meets PySem.F.slot_list_count ⟨_, ho, rfl⟩ PySem.F.entry_list_count (PySem.F.args_list_count_2 _ _) (SeqAt.list_countAt p its.toArray n dd sl u (eqU y)) ⟨ho, fun u' hu' => mem_eqAt ru fy rv fys u' (by simpa using hu'), ?_⟩
  have ec : its.toArray.toList.countP (eqU y) = ys.countP fun z => eqV z y := countP_eqU rv fys
  refine ⟨.int (ys.countP (fun z => eqV z y) : Nat), H, I.tok _, ⟨s.toks, ?_⟩, q⟩
  show Value.int ((its.toArray.toList.countP (eqU y) : Nat) : Int) s.toks = _
  rw [ec]
section
variable {K : Fg} {δ : Dn} {ta tb : TE} {d : PyData}
theorem ed_isP {a D : Addr} {c : V} {cv : Value} {b : Bool} (h : ED K ta δ (excD a)) (hcv : ∀ u, RelV c u → u = cv) (hb : PySem.W.kitOne K (.ref D) cv = some b) : ED K (tCB (rIsE K D a) (tCons ta (tCons (tC c) tNil))) δ (.bool b) := fun M H σ e rr Q q =>
  h M H σ e rr _ fun v M1 H1 g dv => ⟨c, cv, b, by rw [dv.exc_inv], hcv, hb, q _ M1 H1 g (.bl b)⟩
theorem all_flat_bls (ns : List Bool) : (ns.map V.bl).all flatV = true := by
  rw [List.all_eq_true]
  intro x hx
  obtain ⟨b, _, rfl⟩ := List.mem_map.mp hx
  rfl
theorem ed_countB {bs : List Bool} {b : Bool} (ho : ED K ta δ (.list (bs.map .bool))) (he : ED K tb δ (.bool b)) : ED K (tBM K "list" (rCntF K) ta (tCons tb tNil)) δ (.int (bs.count b : Nat)) := fun M H σ e rr Q q =>
  ho M H σ e rr _ fun x M1 H1 g1 dx => by
    obtain ⟨p, xs, rfl, hp, hs⟩ := dx.lst_inv
    obtain rfl := hs.bls
    refine ⟨.inl ⟨rfl, _, SqL.of (g1.mh _ _ hp)⟩, he M1 H1 σ g1.mh (rr.mono g1.mm) _ fun y M2 H2 g2 dy => ?_⟩
    rw [dy.bl_inv]
    refine ⟨p, bs.map V.bl, .bl b, rfl, rfl, SqL.of (g2.hh _ _ (g1.mh _ _ hp)), rfl, all_flat_bls bs, ?_⟩
    have ec : (bs.map V.bl).countP (fun z => eqV z (.bl b)) = bs.count b := by
      rw [List.countP_map]
      rfl
    rw [ec]
    exact q _ M2 H2 (g1.trans g2) (.int _)
theorem ed_indexB {bs : List Bool} {b : Bool} (ho : ED K ta δ (.list (bs.map .bool))) (he : ED K tb δ (.bool b)) (hm : b ∈ bs) : ED K (tBM K "list" (rIndex K) ta (tCons tb tNil)) δ (.int (bs.idxOf b : Nat)) := fun M H σ e rr Q q =>
  ho M H σ e rr _ fun x M1 H1 g1 dx => by
    obtain ⟨p, xs, rfl, hp, hs⟩ := dx.lst_inv
    obtain rfl := hs.bls
    refine ⟨.inl ⟨rfl, _, SqL.of (g1.mh _ _ hp)⟩, he M1 H1 σ g1.mh (rr.mono g1.mm) _ fun y M2 H2 g2 dy => ?_⟩
    rw [dy.bl_inv]
    have hl : bs.idxOf b < bs.length := List.idxOf_lt_length_of_mem hm
    have hg : bs[bs.idxOf b]? = some b := by rw [List.getElem?_eq_getElem hl, List.getElem_idxOf]
    refine ⟨p, bs.map V.bl, .bl b, bs.idxOf b, .bl b, rfl, rfl, SqL.of (g2.hh _ _ (g1.mh _ _ hp)), rfl, all_flat_bls bs, ?_, ?_, fun m z hm' hz => ?_, q _ M2 H2 (g1.trans g2) (.int _)⟩
    · rw [List.getElem?_map, hg]; rfl
    · show (b == b) = true
      simp
    · rw [List.getElem?_map] at hz
      cases hq : bs[m]? with
      | none => rw [hq] at hz; cases hz
      | some w =>
        rw [hq] at hz
        cases hz
        have hml : m < bs.length := (List.getElem?_eq_some_iff.mp hq).1
        have := List.not_of_lt_findIdx (p := (· == b)) (xs := bs) (i := m) (by unfold List.idxOf at hm'; exact hm')
        rw [List.getElem?_eq_getElem hml] at hq
        show (w == b) = false
        rw [← Option.some.inj hq]
        simpa using this
end
/-! ### a def called where an exception is handled -/
theorem run_pin {Y : Cx} {pins : List (Addr × Obj)} {σ : L2.St} {H : Hp} {s : Shared} {p : Addr × Obj} {x : Str} {params : Arguments} {body : List Stmt} {scope : Scope} {f : Addr} {fd : FuncData} {N ps : List Str} {us : List Value} {vs : List V} {Q : VK}
    (I : Inv Y pins σ H s) (hp : p ∈ Y.pn) (hdp : Y.A.depth < recursionLimit) (F : FunD Y.K x x params body scope [] [] f fd) (Sc : FnScope N ps scope) (hb : Binds Y.K fd ps []) (r : Vals vs us) (hl : vs.length = ps.length)
    (hbody : ∀ cdv : Value, ∃ t, PSs (L2H.cxH CX0 Y.prog Y.w Y.K Y.mg Y.base N x scope f cdv Y.A Y.stack s H L2.E0 p) body t ∧ t { nx := fun _ H' => Q .non H', rt := Q } (L2.start N vs) H) :
    wpAny (model Y.prog Y.w) Y.A (call (.ref f) us) (EP Y pins σ Q) Y.xe s := by
  obtain ⟨oc, od, dV, kV, doc, pm, an, cdv, ct, osl, hfd, lk, hcd, _, _⟩ := F.ex
  subst hfd
  have hP := I.pin p (List.mem_append_left _ hp)
  have hpin : L2H.PinOk Y.stack H s p :=
    { get := hP.1, free := hP.2.1, nocell := hP.2.2.2.2
      nofs := fun hm => by
        rcases List.mem_cons.mp (I.stkSub p.1 hm) with z | z
        · exact hP.2.2.1 z
        · exact hP.2.2.2.1 z }
  have e0 := I.env0
  have hbt := hb s us I.kIn (by rw [List.append_nil, ← r.length]; exact hl)
  rw [List.append_nil] at hbt
  obtain ⟨t, ht, hq⟩ := hbody cdv
  have main : codeAny (model Y.prog Y.w) Y.A (.call (.ref f) ⟨us, []⟩) (CR CX0 Y.stack Y.prog Y.w H s Q L2.E0) s := by
    have hk : ∀ y ∈ ps.zip us, scope.names.lookup y.1 = some .local ∨ (scope.names.lookup y.1 = some .cell ∧ ((cellsFrom (s.heap.objs.size + 1) scope.names []).lookup y.1).isSome = true) := by
      rintro ⟨n, v⟩ hy
      rcases Sc.par n (List.of_mem_zip hy).1 with z | z
      · exact .inl z
      · exact .inr ⟨z, PySem.W.cellsFrom_some _ _ _ (.inl z)⟩
    refine codeAny_call_function hdp (I.kIn _ _ lk) rfl Sc.co Sc.gen rfl (PySem.W.codeRec_of I.kIn hcd) (hbt _ _ _ _ (wpAny_newFunctionEnv_cells Sc.kind hk fun env he s1 xc => ?_))
    subst he
    refine ⟨(e0.mod.nolimit.keeps fun b o e => (e0.bs b o e).1).keeps xc.toInCall.keep, codeAny_func ?_⟩
    have J := L2H.inv_startH (CX := CX0) (E := L2.E0) Sc hpin e0 hl r xc
    refine wpAny_mono (ht.run [] s1 (L2.start N vs) H _ J hq) (fun fl s' hs => ?_) (fun _ _ z => z)
    cases fl with
    | ret u =>
      obtain ⟨v, σ', H', J', rv, q'⟩ := hs
      exact ⟨v, H', J'.os, J'.bare, J'.base, J'.hok, rv, q'⟩
    | next =>
      obtain ⟨σ', H', J', q'⟩ := hs
      exact ⟨V.non, H', J'.os, J'.bare, J'.base, J'.hok, rfl, q'⟩
    | brk =>
      obtain ⟨_, _, _, z⟩ := hs
      exact z.elim
    | cont =>
      obtain ⟨_, _, _, z⟩ := hs
      exact z.elim
  refine wpAny_call (codeAny_mono main fun res s' hr => ?_)
  cases res with
  | error _ => exact False.elim hr
  | ok fl =>
    cases fl with
    | ret _ => exact I.after hr
    | next => exact False.elim hr
    | brk => exact False.elim hr
    | cont => exact False.elim hr
end U

namespace U
open PySem PySem.Spec PyProof.Rows L2
/-! ### what raises -/
section
variable {K : Fg} {M0 H0 : Hp} {ta : TA} {ρ : List Sl} {E : DE} {as : List PyData} {S : Spec} {C : Addr} {E' : XK}
theorem sd_raise (hE : ∀ M' H', Gr M0 H0 M' H' → E' (.ref C) none H') : SD K M0 H0 (fun _ _ H => E' (.ref C) none H) ρ E := fun M H σ D r o => hE M H r.gr
theorem sd_dropX (h : EAS K ta ρ as) (s : S as (.exc C)) (hE : ∀ M' H', Gr M0 H0 M' H' → E' (.ref C) none H') : SD K M0 H0 (tDrop (tCall (SpD K S) [] E' ta)) ρ E := fun M H σ D r o =>
  h M0 H0 M H σ r _ fun vs M1 H1 g dvs => ⟨M1, as, .exc C, g.mh, by rw [List.append_nil]; exact dvs, s, fun M' H' g' => hE M' H' (r.gr.trans (g.trans g'))⟩
theorem sd_retX (h : EAS K ta ρ as) (s : S as (.exc C)) (hE : ∀ M' H', Gr M0 H0 M' H' → E' (.ref C) none H') : SD K M0 H0 (tRet (tCall (SpD K S) [] E' ta)) ρ E := fun M H σ D r o =>
  h M0 H0 M H σ r _ fun vs M1 H1 g dvs => ⟨M1, as, .exc C, g.mh, by rw [List.append_nil]; exact dvs, s, fun M' H' g' => hE M' H' (r.gr.trans (g.trans g'))⟩
end
theorem start_Rs {K : Fg} {M H : Hp} {N : List Str} {vs : List V} {ds : List PyData} (e : Ex M H) (dv : DqA K M vs ds) : Rs K M H M H (L2.start N vs) (ds.map Sl.d ++ List.replicate (N.length - ds.length) .u) := by
  have hl := dv.length
  have none_o : ∀ (i : Nat) (es : List PyData), (ds.map Sl.d ++ List.replicate (N.length - ds.length) .u)[i]? ≠ some (.o es) := fun i es h => by
    have := List.mem_of_getElem? h
    rw [List.mem_append] at this
    rcases this with h | h
    · obtain ⟨_, _, z⟩ := List.mem_map.mp h
      cases z
    · rw [List.mem_replicate] at h
      cases h.2
  refine ⟨Gr.refl e, by simp [L2.start, hl], fun i d hi => ?_, fun i d hi => absurd hi (none_o i d), fun i j p d1 d2 _ hi => absurd hi (none_o i d1)⟩
  have hi' : i < ds.length := by
    by_cases q : i < ds.length
    · exact q
    · rw [List.getElem?_append_right (by simpa using Nat.le_of_not_lt q)] at hi
      have := List.mem_of_getElem? hi
      rw [List.mem_replicate] at this
      cases this.2
  rw [List.getElem?_append_left (by simpa using hi'), List.getElem?_map, List.getElem?_eq_getElem hi'] at hi
  have e1 : ds[i]? = some d := by
    rw [List.getElem?_eq_getElem hi']
    exact congrArg some (Sl.d.inj (Option.some.inj hi))
  obtain ⟨v, h1, h2⟩ := dv.get e1
  refine ⟨v, ?_, h2⟩
  unfold L2.start
  rw [List.getElem?_append_left (by rw [List.length_map]; exact (List.getElem?_eq_some_iff.mp h1).1), List.getElem?_map, h1]
  rfl
/-! ### try: .. except X as n: return f(n) -/
theorem pe_clS {X : Cx} {CX : CXT} {k j : Nat} {x : Str} {S : Spec} {E : L2.St → XK} {p pos : Pos} {e : Expr} {es : List Expr} {t : TA} (c : Cad CX X.prog X.w X.K X.mg X.base k x S) (hr : Room j X.A) (hk : k ≤ j) (hx : ∀ σ, PassesAt CX X σ (E σ)) (hg : Gl X x) (ha : PA X (e :: es) t)
    (hdb : (x == ("__debug__" : Str)) = false := by decide) (he : starEach (e :: es) X.env = (false, eval e X.env) :: starEach es X.env := by rfl) (hpl : (backTo pos (starEach es X.env)).any (·.1) = false := by rfl) :
    PE X (.Call (.Name x p) (e :: es) [] pos) (tCallS (SpD X.K S) E t) := by
  obtain ⟨f, fd, ps, F, hm, kp, b⟩ := c.ex
  exact pe_callS F (hr.mono hk) hg hm kp b hx ha hdb he hpl
/-- f(n) in the suite: the text that f tells of the exception at a, of the class cls -/
def tWord (W : Addr → Str → Prop) (i : Nat) (a : Addr) (cls : Value) (d : Option Addr) : TE := fun σ H Q =>
  ∃ C w, cls = .ref C ∧ d = none ∧ W C w ∧ σ[i]? = some (some (.ref a)) ∧ ∃ M, Ex M H ∧ ∀ M' H', Gr M H M' H' → Q (.str w) H'
structure WordDef (P : Program) (wld : World) (K : Fg) (mg : Str → Option Value) (base : Heap) (x : Str) (W : Addr → Str → Prop) : Prop where
  ex : ∃ (f : Addr) (fd : FuncData) (params : Arguments) (body : List Stmt) (scope : Scope) (N : List Str), FunD K x x params body scope [] [] f fd ∧ mg x = some (.ref f) ∧ FnScope N ["e"] scope ∧ Binds K fd ["e"] [] ∧
    ∀ (C : Addr) (w : Str), W C w → ∀ (cdv : Value) (A : Around) (outer : List Env) (s : Shared) (H M0 : Hp) (a : Addr) (oe : Obj), Zc (.ref C) none oe → (∃ vs, oe.data = .fields vs) →
      ∃ t, PSs (L2H.cxH CX0 P wld K mg base N x scope f cdv A outer s H L2.E0 (a, oe)) body t ∧ SD K M0 H t (.d (excD a) :: List.replicate (N.length - 1) .u) { nx := fun _ => False, rt := fun r => r = .val (.str w) }
theorem pe_word {X : Cx} {x : Str} {W : Addr → Str → Prop} {i : Nat} {a : Addr} {oe : Obj} {pn : List (Addr × Obj)} {cls : Value} {d : Option Addr} {e : Expr} {p pos : Pos} (wd : WordDef X.prog X.w X.K X.mg X.base x W) (hdp : X.A.depth < recursionLimit) (hz : Zc cls d oe) (hf : ∃ vs, oe.data = .fields vs)
    (hg : Gl X x) (ha : PA (X.suite a ((a, oe) :: pn)) [e] (tCons (tVar i) tNil)) (hdb : (x == ("__debug__" : Str)) = false := by decide)
    (he : starEach [e] (X.suite a ((a, oe) :: pn)).env = (false, eval e (X.suite a ((a, oe) :: pn)).env) :: starEach [] (X.suite a ((a, oe) :: pn)).env := by rfl) (hpl : (backTo pos (starEach [] (X.suite a ((a, oe) :: pn)).env)).any (·.1) = false := by rfl) :
    PE (X.suite a ((a, oe) :: pn)) (.Call (.Name x p) [e] [] pos) (tWord W i a cls d) := by
  refine ⟨fun pins s σ H Q I h => ?_⟩
  obtain ⟨C, w, rfl, rfl, hW, hσ, M, eM, hQ⟩ := h
  obtain ⟨f, fd, params, body, scope, N, F, hm, Sc, hb, hbody⟩ := wd.ex
  refine wpAny_Call_Name_kw (ld_glob I hg hm ?_ hdb)
  refine PySem.W.callWith_K (h₀ := X.base) I.ok.mod.kin F.kp (thn (ha.run pos pins s σ H (fun vs H1 => vs = [V.ref a] ∧ H1 = H) I ⟨_, hσ, rfl, rfl⟩) fun us s1 ⟨vs, H1, I1, r, q⟩ => ⟨I1.kIn, ?_⟩) he hpl
  obtain ⟨ev, eH⟩ := q
  subst ev eH
  refine run_pin I1 (p := (a, oe)) List.mem_cons_self hdp F Sc hb r rfl fun cdv => ?_
  obtain ⟨t, ht, hsd⟩ := hbody C w hW cdv (X.suite a ((a, oe) :: pn)).A (X.suite a ((a, oe) :: pn)).stack s1 H1 M a oe hz hf
  refine ⟨t, ht, hsd M H1 _ _ (start_Rs (ds := [excD a]) eM (.cons (.exc a) .nil)) ⟨fun _ _ _ _ _ _ k => k.elim, fun _ _ _ _ _ _ k => k.elim, fun _ _ _ _ _ _ k => k.elim, fun d hd v M' H' g dv => ?_, fun es hd => ?_⟩⟩
  · have hd2 : Ret.val d = .val (.str w) := hd
    cases hd2
    rw [dv.str_inv]
    exact hQ M' H' g
  · have hd2 : Ret.new es = .val (.str w) := hd
    cases hd2
/-- the suite -/
abbrev tsWord (W : Addr → Str → Prop) (i : Nat) : Addr → Value → Option Addr → TS := fun a cls d => tRet (tWord W i a cls d)
section
variable {K : Fg} {M0 H0 : Hp} {ta tb : TA} {ρ : List Sl} {E : DE} {as bs : List PyData} {S S2 : Spec} {W : Addr → Str → Prop} {i : Nat} {c : Value} {rr r2 : Ret}
theorem exc_told {M M1 H H1 M' H' : Hp} {σ : L2.St} {D : Ends} (r : Rs K M0 H0 M H σ ρ) (o : Ok K M0 H0 M E D) (g : Gr M H M1 H1) (g' : Gr M1 H1 M' H') (hi : i < ρ.length) {C : Addr} (hx : PySem.W.exmOne K (.ref C) c = some true ∧ ∃ w, W C w ∧ E.rt (.val (.str w))) :
    wAs K c i (tsWord W i) (fun _ _ _ _ => False) D (.ref C) none σ H' := by
  obtain ⟨hm, w, hW, hrt⟩ := hx
  refine ⟨true, hm, fun _ a na => ?_, fun z => by cases z⟩
  refine ⟨C, w, rfl, rfl, hW, by rw [List.getElem?_set_self (by rw [r.len]; exact hi)], M', g'.mh, fun M2 H2 g2 => ?_⟩
  exact o.rv _ hrt _ M2 H2 (r.gr.trans (g.trans (g'.trans g2))) (.str w)
/-- try: return f(..) -/
theorem sd_told (ha : EAS K ta ρ as) (s : S as rr) (hi : i < ρ.length) (hv : ∀ d, rr = .val d → E.rt (.val d)) (hn : ∀ ds, rr = .new ds → E.rt (.new ds))
    (hx : ∀ C, rr = .exc C → PySem.W.exmOne K (.ref C) c = some true ∧ ∃ w, W C w ∧ E.rt (.val (.str w))) :
    SD K M0 H0 (fun D σ H => tRet (tCallS (SpD K S) (WE (wAs K c i (tsWord W i) (fun _ _ _ _ => False) D)) ta) D σ H) ρ E := fun M H σ D r o => by
  refine ha M0 H0 M H σ r _ fun vs M1 H1 g dvs => ⟨M1, as, rr, g.mh, dvs, s, ?_⟩
  cases rr with
  | val d => exact fun v M' H' g' dv => o.rv d (hv d rfl) v M' H' (r.gr.trans (g.trans g')) dv
  | new ds => exact fun p xs M' H' g' n1 n2 hp dv => o.rn ds (hn ds rfl) p xs M' H' (r.gr.trans (g.trans g')) (Evl.fresh_back (r.gr.trans g).hh n1) n2 hp dv
  | exc C => exact fun M' H' g' => exc_told r o g g' hi (hx C rfl)
/-- try: f(..); g(..) -/
theorem sd_tried (ha : EAS K ta ρ as) (s : S as rr) (hb : rr = .val .none → EAS K tb ρ bs ∧ S2 bs r2) (hi : i < ρ.length) (h1 : rr = .val .none ∨ ∃ C, rr = .exc C) (h2 : rr = .val .none → r2 = .val .none ∨ ∃ C, r2 = .exc C)
    (hn : rr = .val .none → r2 = .val .none → E.nx ρ)
    (hx : ∀ C, rr = .exc C ∨ (rr = .val .none ∧ r2 = .exc C) → PySem.W.exmOne K (.ref C) c = some true ∧ ∃ w, W C w ∧ E.rt (.val (.str w))) :
    SD K M0 H0 (fun D σ H => tSeq (tDrop (tCallS (SpD K S) (WE (wAs K c i (tsWord W i) (fun _ _ _ _ => False) D)) ta)) (tDrop (tCallS (SpD K S2) (WE (wAs K c i (tsWord W i) (fun _ _ _ _ => False) D)) tb)) D σ H) ρ E := fun M H σ D r o => by
  refine ha M0 H0 M H σ r _ fun vs M1 H1 g dvs => ⟨M1, as, rr, g.mh, dvs, s, ?_⟩
  rcases h1 with e1 | ⟨C, e1⟩
  · obtain ⟨hb1, hb2⟩ := hb e1
    have h2' := h2 e1
    have hn' := hn e1
    have hx' := fun C h => hx C (.inr ⟨e1, h⟩)
    subst e1
    refine fun v M' H' g' dv => ?_
    have g1 := g.trans g'
    refine hb1 M0 H0 M' H' σ (r.grow g1) _ fun vs2 M3 H3 g3 dvs2 => ⟨M3, bs, r2, g3.mh, dvs2, hb2, ?_⟩
    rcases h2' with e2 | ⟨C, e2⟩
    · have hn2 := hn' e2
      subst e2
      exact fun v2 M4 H4 g4 dv2 => o.nx ρ σ M4 H4 (g1.mm.trans (g3.mm.trans g4.mm)) (r.grow (g1.trans (g3.trans g4))) hn2
    · have hx2 := hx' C e2
      subst e2
      exact fun M4 H4 g4 => exc_told r o (g1.trans g3) g4 hi hx2
  · have hx2 := hx C (.inl e1)
    subst e1
    exact fun M' H' g' => exc_told r o g g' hi hx2
end
/-! ### the classes -/
def clsN : List Str := ["NoWires", "NoGate", "NoShuffle", "NoTimes", "Odd", "NoNote"]
def wordN : List Str := ["wires", "gate", "shuffle", "times", "odd", "note"]
def wordS (x : Str) : Str := wordN.getD ((clsN.map fun y => decide (x = y)).idxOf true) ""
def excCB (K : Fg) (D : Addr) : Bool :=
  He.eqO (PySem.W.findIn K (.ref D) "__getattribute__") (some (some (.builtin "BaseException.__getattribute__"))) && (He.eqO (PySem.W.findIn K (.ref D) "__getattr__") (some none) &&
  (decide (PySem.W.subIn K (.ref D) (.type "BaseException") = some true) && (PySem.W.hasDictIn K D && (He.eqO (PySem.W.findIn K (.ref D) "__class__") (some (some (.builtin "object.__class__"))) &&
  (He.eqO (PySem.W.specialIn K (.builtin "object.__class__") "__get__") (some (some (.builtin "getset_descriptor.__get__"))) && (decide (PySem.W.takesIn K (.builtin "object.__class__") = some true) && decide (PySem.W.mroIn K D (.type "object") = some true)))))))
theorem excCB_ok {K : Fg} {D : Addr} (h : excCB K D = true) : ExcC K D := by
  unfold excCB at h
  simp only [Bool.and_eq_true, decide_eq_true_eq] at h
  obtain ⟨h1, h2, h3, h4, h5, h6, h7, h8⟩ := h
  exact ⟨He.eqO_ok h1, He.eqO_ok h2, h3, h4, He.eqO_ok h5, He.eqO_ok h6, h7, h8⟩
def exB (K : Fg) : Bool := clsN.all fun x => excCB K (He.ga K x) && (decide (PySem.W.exmOne K (.ref (He.ga K x)) (.ref (He.ga K "WireError")) = some true) && (decide (PySem.W.kitOne K (.ref (He.ga K x)) (.type "ValueError") = some true) &&
  clsN.all fun y => decide (PySem.W.kitOne K (.ref (He.ga K x)) (.ref (He.ga K y)) = some (decide (x = y)))))
structure ExF (K : Fg) (x : Str) : Prop where
  cc : ExcC K (He.ga K x)
  wm : PySem.W.exmOne K (.ref (He.ga K x)) (.ref (He.ga K "WireError")) = some true
  vm : PySem.W.kitOne K (.ref (He.ga K x)) (.type "ValueError") = some true
  kk : ∀ y ∈ clsN, PySem.W.kitOne K (.ref (He.ga K x)) (.ref (He.ga K y)) = some (decide (x = y))
theorem exB_ok {K : Fg} (h : exB K = true) : ∀ x ∈ clsN, ExF K x := fun x hx => by
  have h1 := List.all_eq_true.mp h x hx
  simp only [Bool.and_eq_true, decide_eq_true_eq] at h1
  obtain ⟨a, b, c, d⟩ := h1
  exact ⟨excCB_ok a, b, c, fun y hy => of_decide_eq_true (List.all_eq_true.mp d y hy)⟩
/-- what _law_word_of tells -/
def WordW (K : Fg) : Addr → Str → Prop := fun C w => ∃ x ∈ clsN, C = He.ga K x ∧ w = wordS x
theorem word_count : ∀ x ∈ clsN, (([decide (x = "NoWires"), decide (x = "NoGate"), decide (x = "NoShuffle")] ++ [decide (x = "NoTimes"), decide (x = "Odd"), decide (x = "NoNote")] : List Bool).count true) = 1 := by decide +kernel
theorem word_at (x : Str) (hx : x ∈ clsN) : wordN[(clsN.map fun y => decide (x = y)).idxOf true]? = some (wordS x) := by
  unfold wordS
  have hm : true ∈ clsN.map fun y => decide (x = y) := List.mem_map.mpr ⟨x, hx, by simp⟩
  have hl : (clsN.map fun y => decide (x = y)).idxOf true < wordN.length := by
    have := List.idxOf_lt_length_of_mem hm
    rw [List.length_map] at this
    exact this
  rw [List.getD_eq_getElem?_getD, List.getElem?_eq_getElem hl]
  rfl
/-- x is not True -/
theorem rd_notB {K : Fg} {a b : Bool} : RD K rNotB (.bool a) (.bool b) (.bool (!decide (a = b))) := fun M H x y e dx dy Q q => ⟨a, b, dx.bl_inv, dy.bl_inv, q _ M H (Gr.refl e) (.bl _)⟩
/-! ### the Hook, with a look of one's own -/
def obsYG (n : Nat) (fa : List He.Fa) (fn : List He.DefD) (ex : Fg → Bool) (g : Addr → Option Obj) : He.AlD × Bool := (He.obsD fa fn (He.frG g (He.asD g n)), ex (He.frG g (He.asD g n)))
def hookY (n : Nat) (fa : List He.Fa) (fn : List He.DefD) (ex : Fg → Bool) : PySem.W.Hook where
  α := He.AlD × Bool
  obs := fun s => obsYG n fa fn ex s.heap.get?
  val := fun _ => (He.valD fn, true)
  says := fun _ h => ∃ K : Fg, K.In h ∧ He.SaysD fa fn K ∧ ex K = true
  of := fun _ _ e => ⟨_, He.frG_in, congrArg Prod.fst e, congrArg Prod.snd e⟩
  keeps := fun _ _ _ ⟨K, hK, c⟩ k => ⟨K, PySem.W.Frag.In.keeps hK k, c⟩
theorem obsYG_eq {n : Nat} {fa : List He.Fa} {fn : List He.DefD} {ex : Fg → Bool} {g : Addr → Option Obj} {s : Shared} (h : ∀ a, g a = s.heap.get? a) : obsYG n fa fn ex g = (hookY n fa fn ex).obs s := by
  have e : g = s.heap.get? := funext h
  rw [e] <;> rfl
end U

namespace U
open PySem PySem.Spec PyProof.Rows L2
/-! ### rounds -/
/-- from x on by f, up to (and without) s -/
inductive Run (f : Int → Int) (s : Int) : Int → List Int → Prop
  | last {x : Int} (h : f x = s) : Run f s x [x]
  | step {x : Int} {L : List Int} (h : f x ≠ s) (r : Run f s (f x) L) : Run f s x (x :: L)
def runF (f : Int → Int) (s : Int) : Nat → Int → List Int
  | 0, x => [x]
  | k + 1, x => if f x = s then [x] else x :: runF f s k (f x)
def roundL (l : List Int) (s : Int) : List Int := runF (at' l) s l.length s
inductive Tr (f : Int → Int) (s : Int) : List Int → Prop
  | one : Tr f s [s]
  | step {x : Int} {P : List Int} (h : Tr f s (x :: P)) : Tr f s (f x :: x :: P)
section
variable {f : Int → Int} {s : Int}
theorem Run.uniq : ∀ {x : Int} {L M : List Int}, Run f s x L → Run f s x M → L = M
  | _, _, _, .last h, .last _ => rfl
  | _, _, _, .last h, .step h2 _ => absurd h h2
  | _, _, _, .step h _, .last h2 => absurd h2 h
  | _, _, _, .step _ r, .step _ r2 => by rw [r.uniq r2]
theorem Run.head {x : Int} {L : List Int} (h : Run f s x L) : ∃ M, L = x :: M := by
  cases h with
  | last _ => exact ⟨_, rfl⟩
  | step _ _ => exact ⟨_, rfl⟩
theorem Run.mem {x : Int} {L : List Int} (h : Run f s x L) : x ∈ L := by
  obtain ⟨M, rfl⟩ := h.head
  exact List.mem_cons_self
theorem Run.fwd : ∀ {x : Int} {L : List Int}, Run f s x L → ∀ y ∈ L, f y = s ∨ f y ∈ L
  | _, _, .last h, y, hy => by rw [List.mem_singleton.mp hy]; exact .inl h
  | _, _, .step h r, y, hy => by
    rcases List.mem_cons.mp hy with rfl | hy
    · exact .inr (List.mem_cons_of_mem _ r.mem)
    · rcases r.fwd y hy with h | h
      · exact .inl h
      · exact .inr (List.mem_cons_of_mem _ h)
theorem Run.bwd : ∀ {x : Int} {L : List Int}, Run f s x L → ∀ y ∈ L, y = x ∨ ∃ z ∈ L, f z = y
  | _, _, .last h, y, hy => .inl (List.mem_singleton.mp hy)
  | _, _, .step h r, y, hy => by
    rcases List.mem_cons.mp hy with rfl | hy
    · exact .inl rfl
    · rcases r.bwd y hy with h | ⟨z, hz, h⟩
      · exact .inr ⟨_, List.mem_cons_self, h.symm⟩
      · exact .inr ⟨z, List.mem_cons_of_mem _ hz, h⟩
theorem Run.end_ : ∀ {x : Int} {L : List Int}, Run f s x L → ∃ z ∈ L, f z = s
  | _, _, .last h => ⟨_, List.mem_singleton.mpr rfl, h⟩
  | _, _, .step h r => let ⟨z, hz, e⟩ := r.end_; ⟨z, List.mem_cons_of_mem _ hz, e⟩
theorem Run.least {P : Int → Prop} : ∀ {x : Int} {L : List Int}, Run f s x L → P x → (∀ y, P y → P (f y)) → ∀ y ∈ L, P y
  | _, _, .last h, px, c, y, hy => by rw [List.mem_singleton.mp hy]; exact px
  | _, _, .step h r, px, c, y, hy => by
    rcases List.mem_cons.mp hy with rfl | hy
    · exact px
    · exact r.least (c _ px) c y hy
theorem Tr.pre : ∀ {L : List Int}, Tr f s L → ∀ {x : Int} {P : List Int}, L = x :: P → ∀ z ∈ x :: P, z = s ∨ ∃ z' ∈ P, z = f z'
  | _, .one, x, P, e, z, hz => by
    cases e
    exact .inl (List.mem_singleton.mp hz)
  | _, .step (x := x0) (P := P0) h, x, P, e, z, hz => by
    cases e
    rcases List.mem_cons.mp hz with rfl | hz
    · exact .inr ⟨_, List.mem_cons_self, rfl⟩
    · rcases h.pre rfl z hz with h | ⟨z', hz', e⟩
      · exact .inl h
      · exact .inr ⟨z', List.mem_cons_of_mem _ hz', e⟩
end
theorem nodup_len {n : Int} {P : List Int} (h : P.Nodup) (hm : ∀ x ∈ P, 0 ≤ x ∧ x < n) : P.length ≤ n.toNat := by
  have : ∀ {a b : List Int}, a.Nodup → (∀ x ∈ a, x ∈ b) → a.length ≤ b.length := by
    intro a
    induction a with
    | nil => intro b _ _; simp
    | cons x a ih =>
      intro b hn h
      rw [List.nodup_cons] at hn
      have hx := h x List.mem_cons_self
      have := ih (b := b.erase x) hn.2 fun y hy => (List.mem_erase_of_ne (fun e : y = x => hn.1 (by subst e; exact hy))).mpr (h y (List.mem_cons_of_mem _ hy))
      rw [List.length_erase_of_mem hx] at this
      have := List.length_pos_of_mem hx
      simp only [List.length_cons]
      omega
  have h2 := this h (b := irg 0 n) fun x hx => mem_irg.mpr (hm x hx)
  rw [irg_length] at h2
  omega
section
variable {n : Int} {l : List Int}
theorem run_of (hl : Shuf n l) {s : Int} : ∀ (k : Nat) {x : Int} {P : List Int}, Tr (at' l) s (x :: P) → (x :: P).Nodup → (∀ y ∈ x :: P, 0 ≤ y ∧ y < n) → n.toNat ≤ k + (x :: P).length →
    Run (at' l) s x (runF (at' l) s k x) ∧ (P.reverse ++ runF (at' l) s k x).Nodup := by
  intro k
  induction k with
  | zero =>
    intro x P ht hn hm hk
    have hx := hm x List.mem_cons_self
    have hy := hl.at_lt hx.1 hx.2
    have hs : at' l x = s := by
      refine Decidable.byContradiction fun ne => ?_
      by_cases hmem : at' l x ∈ x :: P
      · rcases ht.pre rfl _ hmem with h | ⟨z, hz, e⟩
        · exact ne h
        · have := hl.inj hx (hm z (List.mem_cons_of_mem _ hz)) e
          subst this
          exact (List.nodup_cons.mp hn).1 hz
      · have := nodup_len (n := n) (P := at' l x :: x :: P) (List.nodup_cons.mpr ⟨hmem, hn⟩) fun y hy' => (List.mem_cons.mp hy').elim (fun e => e ▸ hy) (hm y)
        simp only [List.length_cons] at this hk
        omega
    refine ⟨.last hs, ?_⟩
    show (P.reverse ++ [x]).Nodup
    rw [← List.reverse_cons]
    exact List.pairwise_reverse.mpr (hn.imp Ne.symm)
  | succ k ih =>
    intro x P ht hn hm hk
    have hx := hm x List.mem_cons_self
    have hy := hl.at_lt hx.1 hx.2
    unfold runF
    by_cases hs : at' l x = s
    · rw [if_pos hs]
      refine ⟨.last hs, ?_⟩
      rw [← List.reverse_cons]
      exact List.pairwise_reverse.mpr (hn.imp Ne.symm)
    · rw [if_neg hs]
      have hmem : at' l x ∉ x :: P := fun hmem => by
        rcases ht.pre rfl _ hmem with h | ⟨z, hz, e⟩
        · exact hs h
        · have := hl.inj hx (hm z (List.mem_cons_of_mem _ hz)) e
          subst this
          exact (List.nodup_cons.mp hn).1 hz
      have h := ih (x := at' l x) (P := x :: P) (.step ht) (List.nodup_cons.mpr ⟨hmem, hn⟩) (fun y hy' => (List.mem_cons.mp hy').elim (fun e => e ▸ hy) (hm y)) (by simp only [List.length_cons] at hk ⊢; omega)
      refine ⟨.step hs h.1, ?_⟩
      have h2 := h.2
      rw [List.reverse_cons, List.append_assoc] at h2
      exact h2
theorem round_run (hl : Shuf n l) {s : Int} (hs : 0 ≤ s ∧ s < n) : Run (at' l) s s (roundL l s) ∧ (roundL l s).Nodup := by
  have h := run_of hl (s := s) l.length (x := s) (P := []) .one (by simp) (fun y hy => by rw [List.mem_singleton.mp hy]; exact hs) (by rw [hl.length]; omega)
  exact ⟨h.1, h.2⟩
theorem round_mem (hl : Shuf n l) {s : Int} (hs : 0 ≤ s ∧ s < n) : ∀ y ∈ roundL l s, 0 ≤ y ∧ y < n := by
  exact (round_run hl hs).1.least (P := fun y => 0 ≤ y ∧ y < n) hs fun y hy => hl.at_lt hy.1 hy.2
theorem round_self (hl : Shuf n l) {s : Int} (hs : 0 ≤ s ∧ s < n) : s ∈ roundL l s := (round_run hl hs).1.mem
theorem round_fwd (hl : Shuf n l) {s : Int} (hs : 0 ≤ s ∧ s < n) {y : Int} (hy : y ∈ roundL l s) : at' l y ∈ roundL l s := by
  rcases (round_run hl hs).1.fwd y hy with h | h
  · rw [h]; exact round_self hl hs
  · exact h
theorem round_bwd (hl : Shuf n l) {s : Int} (hs : 0 ≤ s ∧ s < n) {y : Int} (hy0 : 0 ≤ y ∧ y < n) (hy : at' l y ∈ roundL l s) : y ∈ roundL l s := by
  have h : ∃ z ∈ roundL l s, at' l z = at' l y := by
    rcases (round_run hl hs).1.bwd _ hy with h | h
    · rw [h]
      exact (round_run hl hs).1.end_
    · exact h
  obtain ⟨z, hz, e⟩ := h
  have := hl.inj (round_mem hl hs z hz) hy0 e
  subst this
  exact hz
theorem round_sub (hl : Shuf n l) {s y : Int} (hs : 0 ≤ s ∧ s < n) (hy : y ∈ roundL l s) : ∀ z ∈ roundL l y, z ∈ roundL l s :=
  (round_run hl (round_mem hl hs y hy)).1.least hy fun _ h => round_fwd hl hs h
theorem round_symm (hl : Shuf n l) {s y : Int} (hs : 0 ≤ s ∧ s < n) (hy : y ∈ roundL l s) : s ∈ roundL l y := by
  have hy0 := round_mem hl hs y hy
  have h := (round_run hl hs).1.least (P := fun z => (0 ≤ z ∧ z < n) ∧ (z ∈ roundL l y → s ∈ roundL l y)) ⟨hs, id⟩ (fun z hz => ⟨hl.at_lt hz.1.1 hz.1.2, fun h => hz.2 (round_bwd hl hy0 hz.1 h)⟩)
  exact (h y hy).2 (round_self hl hy0)
theorem round_same (hl : Shuf n l) {s y : Int} (hs : 0 ≤ s ∧ s < n) (hy : y ∈ roundL l s) (z : Int) : z ∈ roundL l y ↔ z ∈ roundL l s :=
  ⟨round_sub hl hs hy z, round_sub hl (round_mem hl hs y hy) (round_symm hl hs hy) z⟩
theorem round_head (hl : Shuf n l) {s : Int} (hs : 0 ≤ s ∧ s < n) : ∃ t, roundL l s = s :: t := (round_run hl hs).1.head
theorem round_len (hl : Shuf n l) {s : Int} (hs : 0 ≤ s ∧ s < n) : 1 ≤ (roundL l s).length ∧ (roundL l s).length ≤ n.toNat := by
  refine ⟨?_, nodup_len (round_run hl hs).2 (round_mem hl hs)⟩
  obtain ⟨t, e⟩ := round_head hl hs
  rw [e, List.length_cons]
  omega
end
/-! ### the least of a list -/
def mnL : List Int → Int
  | [] => 0
  | [x] => x
  | x :: y :: t => if x < mnL (y :: t) then x else mnL (y :: t)
theorem mnL_mem : ∀ {l : List Int}, l ≠ [] → mnL l ∈ l
  | [], h => absurd rfl h
  | [x], _ => List.mem_singleton.mpr rfl
  | x :: y :: t, _ => by
    unfold mnL
    split
    · exact List.mem_cons_self
    · exact List.mem_cons_of_mem _ (mnL_mem (by simp))
theorem mnL_le : ∀ {l : List Int}, ∀ x ∈ l, mnL l ≤ x
  | [], x, h => by cases h
  | [x], y, h => by rw [List.mem_singleton.mp h]; exact Int.le_refl _
  | x :: y :: t, z, h => by
    unfold mnL
    have := mnL_le (l := y :: t)
    rcases List.mem_cons.mp h with rfl | h
    · split <;> omega
    · have := this z h
      split <;> omega
theorem mnL_same {a b : List Int} (ha : a ≠ []) (h : ∀ x, x ∈ a ↔ x ∈ b) : mnL a = mnL b := by
  have hb : b ≠ [] := fun e => by
    have := (h _).mp (mnL_mem ha)
    rw [e] at this
    cases this
  have h1 := mnL_le (l := a) _ ((h _).mpr (mnL_mem hb))
  have h2 := mnL_le (l := b) _ ((h _).mp (mnL_mem ha))
  omega
end U

namespace U
open PySem PySem.Spec PyProof.Rows L2
/-! ### inversions -/
def lessN (x : Int) (l : List Int) : Nat := (l.filter fun o => decide (o < x)).length
def invs : List Int → Nat
  | [] => 0
  | x :: t => lessN x t + invs t
def cross : List Int → List Int → Nat
  | [], _ => 0
  | x :: t, v => lessN x v + cross t v
theorem lessN_app (x : Int) (a b : List Int) : lessN x (a ++ b) = lessN x a + lessN x b := by unfold lessN; rw [List.filter_append, List.length_append]
theorem lessN_perm {x : Int} {a b : List Int} (h : a.Perm b) : lessN x a = lessN x b := (h.filter _).length_eq
theorem invs_app : ∀ a b : List Int, invs (a ++ b) = invs a + invs b + cross a b
  | [], b => by simp [invs, cross]
  | x :: a, b => by
    show lessN x (a ++ b) + invs (a ++ b) = lessN x a + invs a + invs b + (lessN x b + cross a b)
    rw [lessN_app, invs_app a b]
    omega
theorem cross_left {a b v : List Int} (h : a.Perm b) : cross a v = cross b v := by
  induction h with
  | nil => rfl
  | cons x _ ih => show lessN x v + _ = lessN x v + _; rw [ih]
  | swap x y l => show lessN y v + (lessN x v + cross l v) = lessN x v + (lessN y v + cross l v); omega
  | trans _ _ ih1 ih2 => rw [ih1, ih2]
theorem cross_right : ∀ {a v w : List Int}, v.Perm w → cross a v = cross a w
  | [], _, _, _ => rfl
  | x :: a, v, w, h => by
    show lessN x v + cross a v = lessN x w + cross a w
    rw [lessN_perm h, cross_right (a := a) h]
theorem cross_one : ∀ (a : List Int) (y : Int), y ∉ a → cross a [y] + lessN y a = a.length
  | [], _, _ => rfl
  | x :: a, y, h => by
    have h1 : y ∉ a := fun z => h (List.mem_cons_of_mem _ z)
    have h2 : y ≠ x := fun z => h (z ▸ List.mem_cons_self)
    have := cross_one a y h1
    show lessN x [y] + cross a [y] + lessN y (x :: a) = a.length + 1
    have e1 : lessN x [y] = if y < x then 1 else 0 := by
      unfold lessN
      rw [List.filter_cons]
      split <;> simp_all
    have e2 : lessN y (x :: a) = (if x < y then 1 else 0) + lessN y a := by
      unfold lessN
      rw [List.filter_cons]
      split <;> simp_all <;> omega
    rw [e1, e2]
    split <;> split <;> omega
/-- two of a row change places -/
theorem invs_swap {A B C : List Int} {x y : Int} (h : (A ++ x :: B ++ y :: C).Nodup) : (invs (A ++ x :: B ++ y :: C) + invs (A ++ y :: B ++ x :: C)) % 2 = 1 := by
  have hp : (x :: B ++ [y]).Perm (y :: B ++ [x]) := by
    have h1 : (x :: B ++ [y]).Perm (y :: (x :: B)) := List.perm_append_singleton _ _
    have h2 : (y :: B ++ [x]).Perm (x :: (y :: B)) := List.perm_append_singleton _ _
    exact h1.trans ((List.Perm.swap x y B).trans h2.symm)
  have e1 : A ++ x :: B ++ y :: C = A ++ ((x :: B ++ [y]) ++ C) := by simp
  have e2 : A ++ y :: B ++ x :: C = A ++ ((y :: B ++ [x]) ++ C) := by simp
  rw [e1] at h
  have hxy : y ∉ x :: B := by
    have := (List.nodup_append.mp (List.nodup_append.mp (List.nodup_append.mp h).2.1).1).2.2
    intro z
    exact this y z y (List.mem_singleton.mpr rfl) rfl
  have hxB : x ∉ B := by
    have := (List.nodup_append.mp (List.nodup_append.mp (List.nodup_append.mp h).2.1).1).1
    exact (List.nodup_cons.mp this).1
  have hyB : y ∉ B := fun z => hxy (List.mem_cons_of_mem _ z)
  have hne : y ≠ x := fun z => hxy (z ▸ List.mem_cons_self)
  rw [e1, e2, invs_app A, invs_app A, invs_app (x :: B ++ [y]), invs_app (y :: B ++ [x]), cross_left hp, cross_right (a := A) (hp.append_right C), invs_app (x :: B), invs_app (y :: B)]
  have c1 : cross (x :: B) [y] = lessN x [y] + cross B [y] := rfl
  have c2 : cross (y :: B) [x] = lessN y [x] + cross B [x] := rfl
  have i1 : invs (x :: B) = lessN x B + invs B := rfl
  have i2 : invs (y :: B) = lessN y B + invs B := rfl
  have k1 := cross_one B y hyB
  have k2 := cross_one B x hxB
  have e3 : lessN x [y] + lessN y [x] = 1 := by
    unfold lessN
    rw [List.filter_cons, List.filter_cons]
    by_cases c : y < x
    · rw [if_pos (decide_eq_true c), if_neg (by rw [decide_eq_true_eq]; omega)]; rfl
    · rw [if_neg (by rw [decide_eq_true_eq]; exact c), if_pos (by rw [decide_eq_true_eq]; omega)]; rfl
  have s1 : invs [y] = 0 := rfl
  have s2 : invs [x] = 0 := rfl
  omega
def oddI (l : List Int) : Bool := decide (invs l % 2 = 1)
theorem swapL_comm (l : List Int) {i j : Int} (hi : 0 ≤ i ∧ i < l.length) (hj : 0 ≤ j ∧ j < l.length) : swapL l i j = swapL l j i := by
  refine ext_at (by rw [length_swapL, length_swapL]) fun k h0 h => ?_
  rw [length_swapL] at h
  rw [swapL_at hi hj ⟨h0, h⟩, swapL_at hj hi ⟨h0, h⟩]
  congr 1
  split <;> split <;> omega
theorem split_at (l : List Int) {i j : Nat} (hij : i < j) (hj : j < l.length) : ∃ A B C x y, l = A ++ x :: B ++ y :: C ∧ A.length = i ∧ (A ++ x :: B).length = j := by
  have e1 : l = l.take j ++ l.drop j := (List.take_append_drop j l).symm
  have e2 : l.drop j = l[j] :: l.drop (j + 1) := List.drop_eq_getElem_cons hj
  have hl : (l.take j).length = j := by rw [List.length_take]; omega
  have e3 : l.take j = (l.take j).take i ++ (l.take j).drop i := (List.take_append_drop i _).symm
  have e4 : (l.take j).drop i = (l.take j)[i]'(by omega) :: (l.take j).drop (i + 1) := List.drop_eq_getElem_cons (by omega)
  refine ⟨(l.take j).take i, (l.take j).drop (i + 1), l.drop (j + 1), (l.take j)[i]'(by omega), l[j], ?_, by rw [List.length_take]; omega, ?_⟩
  · rw [← e4, List.take_append_drop, ← e2, List.take_append_drop]
  · rw [← e4, List.take_append_drop]
    exact hl
theorem at'_mid (A C : List Int) (x : Int) : at' (A ++ x :: C) (A.length : Int) = x := by
  rw [at'_toNat (by rw [List.length_append, List.length_cons]; omega)]
  simp
theorem swap_parts (A B C : List Int) (x y : Int) : swapL (A ++ x :: B ++ y :: C) (A.length : Int) ((A ++ x :: B).length : Int) = A ++ y :: B ++ x :: C := by
  unfold swapL
  rw [at'_mid (A ++ x :: B) C y]
  have e : at' (A ++ x :: B ++ y :: C) (A.length : Int) = x := by
    rw [List.append_assoc]
    exact at'_mid A (B ++ y :: C) x
  rw [e, Int.toNat_natCast, Int.toNat_natCast]
  have h1 : (A ++ x :: B ++ y :: C).set A.length y = A ++ y :: B ++ y :: C := by
    rw [List.append_assoc, List.set_append_right _ _ (Nat.le_refl _), Nat.sub_self]
    simp
  rw [h1]
  have h2 : (A ++ x :: B).length = (A ++ y :: B).length := by simp
  rw [h2, List.set_append_right _ _ (Nat.le_refl _), Nat.sub_self]
  rfl
theorem oddI_swap {n : Int} {l : List Int} (h : Shuf n l) {i j : Int} (hi : 0 ≤ i ∧ i < n) (hj : 0 ≤ j ∧ j < n) (ne : i ≠ j) : oddI (swapL l i j) = !oddI l := by
  have hl := h.length
  have key : ∀ a b : Nat, a < b → b < l.length → oddI (swapL l a b) = !oddI l := fun a b hab hb => by
    obtain ⟨A, B, C, x, y, rfl, ha, hb'⟩ := split_at l hab hb
    have := invs_swap h.nodup
    rw [← ha, ← hb', swap_parts]
    unfold oddI
    by_cases c : invs (A ++ x :: B ++ y :: C) % 2 = 1
    · rw [decide_eq_true c, decide_eq_false (by omega)]; rfl
    · rw [decide_eq_false c, decide_eq_true (by omega)]; rfl
  obtain ⟨a, rfl⟩ := Int.eq_ofNat_of_zero_le hi.1
  obtain ⟨b, rfl⟩ := Int.eq_ofNat_of_zero_le hj.1
  by_cases c : a < b
  · exact key a b c (by omega)
  · rw [swapL_comm l (by omega) (by omega)]
    exact key b a (by omega) (by omega)
theorem invs_sorted : ∀ {l : List Int}, l.Pairwise (· ≤ ·) → invs l = 0
  | [], _ => rfl
  | x :: t, h => by
    rw [List.pairwise_cons] at h
    have e : lessN x t = 0 := by
      unfold lessN
      rw [List.length_eq_zero_iff, List.filter_eq_nil_iff]
      intro y hy hd
      have := h.1 y hy
      have := of_decide_eq_true hd
      omega
    show lessN x t + invs t = 0
    rw [e, invs_sorted h.2]
theorem oddI_id (n : Int) : oddI (irg 0 n) = false := by
  unfold oddI
  rw [invs_sorted (irg_sorted 0 n)]
  rfl
/-- by swaps down to the row that leaves all -/
theorem Shuf.ind {n : Int} (hn : 0 ≤ n) {P : List Int → Prop} (h0 : P (irg 0 n))
    (hs : ∀ (l : List Int) (j m : Int), Shuf n l → (0 ≤ j ∧ j < m) → m < n → at' l j = m → at' l m ≠ m → (∀ i, m < i → i < n → at' l i = i) → P (swapL l j m) → P l) {l : List Int} (h : Shuf n l) : P l := by
  have key : ∀ (k : Nat) (l : List Int), Shuf n l → (∀ i, (k : Int) ≤ i → i < n → at' l i = i) → (k : Int) ≤ n → P l := by
    intro k
    induction k with
    | zero =>
      intro l h hf _
      have e : l = irg 0 n := by
        refine ext_at (by rw [h.length, irg_length]; omega) fun i h0 h1 => ?_
        have := h.length
        rw [hf i h0 (by omega), at'_irg h0 (by omega)]
      rw [e]
      exact h0
    | succ k ih =>
      intro l h hf hk
      by_cases c : at' l k = k
      · refine ih l h (fun i hi hn => ?_) (by omega)
        by_cases e : i = k
        · rw [e]; exact c
        · exact hf i (by omega) hn
      · have hl := h.length
        have hmem : (k : Int) ∈ l := h.mem.mpr (by omega)
        have hidx := idx_lt hmem
        have hat := at'_idx hmem
        generalize hj : ((l.idxOf (k : Int) : Nat) : Int) = j at hat
        have hj0 : 0 ≤ j ∧ j < n := by omega
        have hjk : j < k := by
          refine Decidable.byContradiction fun z => ?_
          by_cases e : j = k
          · rw [e] at hat
            exact c hat
          · have := hf j (by omega) hj0.2
            omega
        refine hs l j k h ⟨hj0.1, hjk⟩ (by omega) hat c (fun i hi hn => hf i (by omega) hn) ?_
        refine ih _ (h.swap hj0 (by omega)) (fun i hi hin => ?_) (by omega)
        rw [swapL_at (by omega) (by omega) (by omega)]
        by_cases e : i = k
        · rw [if_neg (by omega), if_pos e, hat, e]
        · rw [if_neg (by omega), if_neg e]
          exact hf i (by omega) hin
  have := key n.toNat l h (fun i hi hn => by omega) (by omega)
  exact this
theorem comp_swap {n : Int} {a b : List Int} (ha : Shuf n a) {i j : Int} (hi : 0 ≤ i ∧ i < n) (hj : 0 ≤ j ∧ j < n) : comp (swapL a i j) b = swapL (comp a b) i j := by
  have hl := ha.length
  refine ext_at (by rw [length_comp, length_swapL, length_swapL, length_comp]) fun k h0 h => ?_
  rw [length_comp, length_swapL] at h
  rw [at'_comp h0 (by rw [length_swapL]; exact h), swapL_at (by omega) (by omega) ⟨h0, h⟩, swapL_at (by rw [length_comp]; omega) (by rw [length_comp]; omega) (by rw [length_comp]; omega)]
  split
  · rw [at'_comp hj.1 (by omega)]
  · split
    · rw [at'_comp hi.1 (by omega)]
    · rw [at'_comp h0 h]
theorem oddI_comp {n : Int} (hn : 0 ≤ n) {a b : List Int} (ha : Shuf n a) (hb : Shuf n b) : oddI (comp a b) = (oddI a != oddI b) := by
  refine Shuf.ind hn (P := fun a => oddI (comp a b) = (oddI a != oddI b)) ?_ (fun l j m hl hj hm h1 h2 h3 ih => ?_) ha
  · rw [id_comp hb, oddI_id]
    cases oddI b <;> rfl
  · rw [comp_swap hl (by omega) (by omega), oddI_swap (hl.comp hb) (by omega) (by omega) (by omega), oddI_swap hl (by omega) (by omega) (by omega)] at ih
    revert ih
    cases oddI (comp l b) <;> cases oddI l <;> cases oddI b <;> simp
theorem oddI_cont {n : Int} (hn : 0 ≤ n) {a : List Int} (ha : Shuf n a) : oddI (cont a) = oddI a := by
  have h := oddI_comp hn ha ha.cont
  rw [cont_back ha, oddI_id] at h
  revert h
  cases oddI a <;> cases oddI (cont a) <;> simp
/-! ### rounds of even length -/
def evS (l : List Int) (s : Int) : Bool := decide (s = mnL (roundL l s)) && decide ((roundL l s).length % 2 = 0)
def evC (n : Int) (l : List Int) : Nat := ((irg 0 n).filter (evS l)).length
def oddC (n : Int) (l : List Int) : Bool := decide (evC n l % 2 = 1)
theorem filter_xor {α : Type} (p q e : α → Bool) : ∀ l : List α, (∀ s ∈ l, q s = (p s != e s)) → ((l.filter p).length + (l.filter q).length) % 2 = (l.filter e).length % 2
  | [], _ => rfl
  | x :: l, h => by
    have ih := filter_xor p q e l fun s hs => h s (List.mem_cons_of_mem _ hs)
    have hx := h x List.mem_cons_self
    rw [List.filter_cons, List.filter_cons, List.filter_cons, hx]
    cases p x <;> cases e x <;> simp <;> omega
section
variable {n m j : Int} {l : List Int}
theorem swap_at_j (h : Shuf n l) (hj : 0 ≤ j ∧ j < m) (hm : m < n) (i : Int) (hi : 0 ≤ i ∧ i < n) : at' (swapL l j m) i = if i = j then at' l m else if i = m then at' l j else at' l i := by
  have hl := h.length
  rw [swapL_at (by omega) (by omega) (by omega)]
  split
  · rfl
  · split <;> rfl
theorem cut_run (h : Shuf n l) (hj : 0 ≤ j ∧ j < m) (hm : m < n) (h1 : at' l j = m) (h2 : at' l m ≠ m) {s : Int} (hs : s ≠ m) : ∀ {x : Int} {L : List Int}, Run (at' l) s x L → (0 ≤ x ∧ x < n) →
    (x ≠ m → Run (at' (swapL l j m)) s x (L.filter fun y => !decide (y = m))) ∧ (x = m → (at' l m = s ∧ L = [m]) ∨ (at' l m ≠ s ∧ ∃ L2, L = m :: L2 ∧ Run (at' (swapL l j m)) s (at' l m) (L2.filter fun y => !decide (y = m)))) := by
  intro x L r
  induction r with
  | last hx =>
    rename_i x
    intro hx0
    refine ⟨fun hxm => ?_, fun e => .inl ⟨e ▸ hx, by rw [e]⟩⟩
    have hne : x ≠ j := fun e => by rw [e, h1] at hx; exact hs hx.symm
    have e : [x].filter (fun y => !decide (y = m)) = [x] := by simp [hxm]
    rw [e]
    refine .last ?_
    rw [swap_at_j h hj hm x hx0, if_neg hne, if_neg hxm]
    exact hx
  | step hx r ih =>
    rename_i x L
    intro hx0
    have ih2 := ih (h.at_lt hx0.1 hx0.2)
    refine ⟨fun hxm => ?_, fun e => ?_⟩
    · have e : (x :: L).filter (fun y => !decide (y = m)) = x :: L.filter (fun y => !decide (y = m)) := by simp [hxm]
      rw [e]
      by_cases c : at' l x = m
      · have hxj : x = j := h.inj hx0 (by omega) (c.trans h1.symm)
        have esw : at' (swapL l j m) x = at' l m := by rw [swap_at_j h hj hm x hx0, if_pos hxj]
        rcases ih2.2 c with ⟨g1, g2⟩ | ⟨g1, L2, g2, g3⟩
        · rw [g2]
          have e2 : [m].filter (fun y => !decide (y = m)) = [] := by simp
          rw [e2]
          exact .last (esw.trans g1)
        · rw [g2]
          have e2 : (m :: L2).filter (fun y => !decide (y = m)) = L2.filter (fun y => !decide (y = m)) := by simp
          rw [e2]
          refine .step (by rw [esw]; exact g1) ?_
          rw [esw]
          exact g3
      · have hxj : x ≠ j := fun e => c (by rw [e]; exact h1)
        have esw : at' (swapL l j m) x = at' l x := by rw [swap_at_j h hj hm x hx0, if_neg hxj, if_neg hxm]
        refine .step (by rw [esw]; exact hx) ?_
        rw [esw]
        exact ih2.1 c
    · subst e
      exact .inr ⟨hx, L, rfl, ih2.1 h2⟩
theorem cut_round (h : Shuf n l) (hj : 0 ≤ j ∧ j < m) (hm : m < n) (h1 : at' l j = m) (h2 : at' l m ≠ m) {s : Int} (hs0 : 0 ≤ s ∧ s < n) (hs : s ≠ m) : roundL (swapL l j m) s = (roundL l s).filter fun y => !decide (y = m) := by
  have r1 := ((cut_run h hj hm h1 h2 hs (round_run h hs0).1) hs0).1 hs
  have r2 := (round_run (h.swap (a := j) (b := m) (by omega) (by omega)) hs0).1
  exact r2.uniq r1
theorem cut_self (h : Shuf n l) (hj : 0 ≤ j ∧ j < m) (hm : m < n) (h1 : at' l j = m) : roundL (swapL l j m) m = [m] := by
  have r2 := (round_run (h.swap (a := j) (b := m) (by omega) (by omega)) (s := m) (by omega)).1
  refine r2.uniq (.last ?_)
  rw [swap_at_j h hj hm m (by omega), if_neg (by omega), if_pos rfl, h1]
theorem evC_cut (h : Shuf n l) (hj : 0 ≤ j ∧ j < m) (hm : m < n) (h1 : at' l j = m) (h2 : at' l m ≠ m) (h3 : ∀ i, m < i → i < n → at' l i = i) : (evC n l + evC n (swapL l j m)) % 2 = 1 := by
  have hm0 : 0 ≤ m ∧ m < n := by omega
  have hjm : j ∈ roundL l m := round_bwd h hm0 (by omega) (by rw [h1]; exact round_self h hm0)
  -- all of m's round are at most m
  have hle : ∀ y ∈ roundL l m, y ≤ m := fun y hy => by
    refine Decidable.byContradiction fun z => ?_
    have hy0 := round_mem h hm0 y hy
    have hyf := h3 y (by omega) hy0.2
    have hr : roundL l y = [y] := (round_run h hy0).1.uniq (.last hyf)
    have := round_symm h hm0 hy
    rw [hr, List.mem_singleton] at this
    omega
  have hne : roundL l m ≠ [] := fun e => by rw [e] at hjm; cases hjm
  -- the least of m's round
  have hs1 := mnL_mem hne
  generalize hs0 : mnL (roundL l m) = s0 at hs1
  have hs0r := round_mem h hm0 s0 hs1
  have hsj : s0 ≤ j := by rw [← hs0]; exact mnL_le _ hjm
  have hself : ∀ s, 0 ≤ s → s < n → roundL l s ≠ [] := fun s a b e => by have := round_self h ⟨a, b⟩; rw [e] at this; cases this
  have key : ∀ s ∈ irg 0 n, evS (swapL l j m) s = (evS l s != decide (s = s0)) := fun s hs => by
    rw [mem_irg] at hs
    by_cases c : s = m
    · subst c
      have e1 : evS (swapL l j s) s = false := by
        unfold evS
        rw [cut_self h hj hm h1]
        simp
      have e2 : evS l s = false := by
        unfold evS
        rw [hs0, decide_eq_false (by omega)]
        rfl
      rw [e1, e2, decide_eq_false (by omega)]
      rfl
    · have er := cut_round h hj hm h1 h2 hs c
      by_cases cm : m ∈ roundL l s
      · have hsm : s ∈ roundL l m := round_symm h hs cm
        have emn : mnL (roundL l s) = s0 := by rw [← hs0]; exact mnL_same (hself s hs.1 hs.2) (round_same h hm0 hsm)
        have emn2 : mnL (roundL (swapL l j m) s) = s0 := by
          have hsub : (roundL l s).filter (fun y => !decide (y = m)) ≠ [] := fun e => by
            have : s ∈ (roundL l s).filter (fun y => !decide (y = m)) := List.mem_filter.mpr ⟨round_self h hs, by simp [c]⟩
            rw [e] at this
            cases this
          rw [er]
          have m1 := mnL_mem hsub
          have m2 := mnL_le (l := roundL l s) _ (List.mem_filter.mp m1).1
          have m3 : s0 ∈ (roundL l s).filter (fun y => !decide (y = m)) := List.mem_filter.mpr ⟨(round_same h hm0 hsm s0).mpr hs1, by rw [decide_eq_false (by omega)]; rfl⟩
          have m4 := mnL_le _ m3
          omega
        have elen : (roundL (swapL l j m) s).length + 1 = (roundL l s).length := by
          rw [er]
          have hnd := (round_run h hs).2
          have : (roundL l s).filter (fun y => !decide (y = m)) = (roundL l s).erase m := by
            rw [List.Nodup.erase_eq_filter hnd]
            refine List.filter_congr fun x _ => ?_
            by_cases z : x = m <;> simp [z]
          rw [this, List.length_erase_of_mem cm]
          have := List.length_pos_of_mem cm
          omega
        unfold evS
        rw [emn, emn2]
        by_cases z : s = s0
        · rw [decide_eq_true z]
          by_cases ev : (roundL l s).length % 2 = 0
          · rw [decide_eq_true ev, decide_eq_false (by omega)]; rfl
          · rw [decide_eq_false ev, decide_eq_true (by omega)]; rfl
        · rw [decide_eq_false z]; rfl
      · have e2 : (roundL l s).filter (fun y => !decide (y = m)) = roundL l s := by
          rw [List.filter_eq_self]
          intro y hy
          have : y ≠ m := fun z => cm (z ▸ hy)
          simp [this]
        have z : s ≠ s0 := fun e => cm (by
          subst e
          exact round_symm h hm0 hs1)
        unfold evS
        rw [er, e2, decide_eq_false z]
        cases (decide (s = mnL (roundL l s)) && decide ((roundL l s).length % 2 = 0)) <;> rfl
  have hx := filter_xor (evS l) (evS (swapL l j m)) (fun s => decide (s = s0)) (irg 0 n) key
  have hone : ((irg 0 n).filter fun s => decide (s = s0)).length = 1 := by
    have hn := irg_nodup 0 n
    have hmem : s0 ∈ irg 0 n := mem_irg.mpr hs0r
    have : (irg 0 n).filter (fun s => decide (s = s0)) = [s0] := by
      refine List.Perm.eq_singleton ?_
      refine perm_of_sub (hn.filter _) (fun x hx => ?_) ?_
      · have := of_decide_eq_true (List.mem_filter.mp hx).2
        rw [this]
        exact List.mem_singleton.mpr rfl
      · have : s0 ∈ (irg 0 n).filter (fun s => decide (s = s0)) := List.mem_filter.mpr ⟨hmem, by simp⟩
        exact List.length_pos_of_mem this
    rw [this]
    rfl
  unfold evC
  rw [hx, hone]
end
theorem oddC_oddI {n : Int} (hn : 0 ≤ n) {l : List Int} (h : Shuf n l) : oddC n l = oddI l := by
  refine Shuf.ind hn (P := fun l => oddC n l = oddI l) ?_ (fun l j m hl hj hm h1 h2 h3 ih => ?_) h
  · rw [oddI_id]
    unfold oddC
    have e : evC n (irg 0 n) = 0 := by
      unfold evC
      rw [List.length_eq_zero_iff, List.filter_eq_nil_iff]
      intro s hs hd
      rw [mem_irg] at hs
      have hr : roundL (irg 0 n) s = [s] := (round_run (shuf_irg n) hs).1.uniq (.last (at'_irg hs.1 hs.2))
      unfold evS at hd
      rw [hr] at hd
      simp at hd
    rw [e]
    rfl
  · rw [oddI_swap hl (by omega) (by omega) (by omega)] at ih
    have hc := evC_cut hl hj hm h1 h2 h3
    have e : oddC n (swapL l j m) = !oddC n l := by
      unfold oddC
      by_cases c : evC n l % 2 = 1
      · rw [decide_eq_true c, decide_eq_false (by omega)]; rfl
      · rw [decide_eq_false c, decide_eq_true (by omega)]; rfl
    rw [e] at ih
    revert ih
    cases oddC n l <;> cases oddI l <;> simp
end U

namespace U
open PySem PySem.Spec PyProof.Rows L2
theorem atI_last {α : Type} (P : List α) (x : α) : L2.atI (P ++ [x]) (-1) = some x := by
  unfold L2.atI
  rw [List.length_append]
  simp [ixN]
  rw [if_pos (by omega)]
  show (P ++ [x])[(-1 + ((P.length : Int) + 1)).toNat]? = _
  rw [show (-1 + ((P.length : Int) + 1)).toNat = P.length by omega]
  simp
theorem atI_lastI (P : List Int) (x : Int) : L2.atI ((P ++ [x]).map PyData.int) (-1) = some (.int x) := by
  rw [List.map_append]
  exact atI_last _ _
/-! ### iterates -/
def itr (f : Int → Int) : Nat → Int → Int
  | 0, x => x
  | k + 1, x => itr f k (f x)
section
variable {f : Int → Int} {s : Int}
theorem itr_add (a b : Nat) (x : Int) : itr f (a + b) x = itr f b (itr f a x) := by
  induction a generalizing x with
  | zero => rw [Nat.zero_add]; rfl
  | succ a ih => rw [Nat.succ_add]; exact ih (f x)
theorem itr_succ (k : Nat) (x : Int) : itr f (k + 1) x = f (itr f k x) := itr_add k 1 x
theorem Run.itr_get : ∀ {x : Int} {L : List Int}, Run f s x L → ∀ k, k < L.length → L[k]? = some (itr f k x)
  | _, _, .last h, 0, _ => rfl
  | _, _, .last h, k + 1, hk => by simp at hk
  | _, _, .step h r, 0, _ => rfl
  | _, _, .step h r, k + 1, hk => by
    rw [List.getElem?_cons_succ]
    exact r.itr_get k (by simpa using hk)
theorem Run.itr_len : ∀ {x : Int} {L : List Int}, Run f s x L → itr f L.length x = s
  | _, _, .last h => h
  | _, _, .step h r => r.itr_len
end
section
variable {n : Int} {l : List Int}
theorem itr_in (hl : Shuf n l) : ∀ (k : Nat) {s : Int}, 0 ≤ s ∧ s < n → 0 ≤ itr (at' l) k s ∧ itr (at' l) k s < n
  | 0, _, h => h
  | k + 1, s, h => itr_in hl k (hl.at_lt h.1 h.2)
theorem itr_mul (hl : Shuf n l) {s : Int} (hs : 0 ≤ s ∧ s < n) : ∀ q : Nat, itr (at' l) (q * (roundL l s).length) s = s
  | 0 => by rw [Nat.zero_mul]; rfl
  | q + 1 => by
    rw [Nat.succ_mul, itr_add, itr_mul hl hs q]
    exact (round_run hl hs).1.itr_len
theorem itr_mod (hl : Shuf n l) {s : Int} (hs : 0 ≤ s ∧ s < n) (k : Nat) : itr (at' l) k s = itr (at' l) (k % (roundL l s).length) s := by
  have e := Nat.div_add_mod k (roundL l s).length
  conv => lhs; rw [← e, Nat.mul_comm, itr_add, itr_mul hl hs]
theorem round_at (hl : Shuf n l) {s : Int} (hs : 0 ≤ s ∧ s < n) (k : Nat) : at' (roundL l s) ((k : Int) % ((roundL l s).length : Int)) = itr (at' l) k s := by
  have hlen := round_len hl hs
  have hk : k % (roundL l s).length < (roundL l s).length := Nat.mod_lt _ (by omega)
  have e := (round_run hl hs).1.itr_get _ hk
  rw [itr_mod hl hs, ← Int.natCast_emod, at'_toNat hk]
  rw [List.getElem?_eq_getElem hk] at e
  exact Option.some.inj e
theorem itr_fix (hl : Shuf n l) {s : Int} (hs : 0 ≤ s ∧ s < n) (k : Nat) : itr (at' l) k s = s ↔ (roundL l s).length ∣ k := by
  have hlen := round_len hl hs
  constructor
  · intro h
    rw [itr_mod hl hs] at h
    have hk : k % (roundL l s).length < (roundL l s).length := Nat.mod_lt _ (by omega)
    have e := (round_run hl hs).1.itr_get _ hk
    have e0 := (round_run hl hs).1.itr_get 0 (by omega)
    rw [h] at e
    have e0' : (roundL l s)[0]? = some s := e0
    have : k % (roundL l s).length = 0 := by
      have hn := (round_run hl hs).2
      rw [List.getElem?_eq_getElem hk] at e
      rw [List.getElem?_eq_getElem (by omega)] at e0'
      refine Decidable.byContradiction fun z => ?_
      rw [List.nodup_iff_pairwise_ne, List.pairwise_iff_getElem] at hn
      exact hn 0 _ (by omega) hk (by omega) ((Option.some.inj e0').trans (Option.some.inj e).symm)
    exact Nat.dvd_of_mod_eq_zero this
  · rintro ⟨q, rfl⟩
    rw [Nat.mul_comm]
    exact itr_mul hl hs q
/-- the shuffle done k times -/
def pw (n : Int) (l : List Int) (k : Nat) : List Int := (irg 0 n).map (itr (at' l) k)
theorem length_pw (n : Int) (l : List Int) (k : Nat) : (pw n l k).length = n.toNat := by simp [pw, irg_length]
theorem at'_pw {k : Nat} {i : Int} (h0 : 0 ≤ i) (h : i < n) : at' (pw n l k) i = itr (at' l) k i := by
  unfold pw
  rw [at'_map h0 (by rw [irg_length]; omega), at'_irg h0 h]
theorem pw_zero : pw n l 0 = irg 0 n := by
  unfold pw
  show (irg 0 n).map (fun s => s) = _
  rw [List.map_id']
theorem pw_one (hl : Shuf n l) : pw n l 1 = l := by
  have h := hl.length
  refine ext_at (by rw [length_pw, h]) fun i h0 hi => ?_
  rw [length_pw] at hi
  rw [at'_pw h0 (by omega)]
  rfl
theorem pw_in (hl : Shuf n l) {k : Nat} : ∀ x ∈ pw n l k, 0 ≤ x ∧ x < n := fun x hx => by
  obtain ⟨y, hy, rfl⟩ := List.mem_map.mp hx
  exact itr_in hl k (mem_irg.mp hy)
theorem pw_shuf (hl : Shuf n l) (k : Nat) : Shuf n (pw n l k) := by
  induction k with
  | zero => rw [pw_zero]; exact shuf_irg n
  | succ k ih =>
    have h := hl.length
    have hk := ih.length
    have e : pw n l (k + 1) = comp (pw n l k) l := by
      refine ext_at (by rw [length_comp, length_pw, length_pw]) fun i h0 hi => ?_
      rw [length_pw] at hi
      rw [at'_pw h0 (by omega), at'_comp h0 (by rw [length_pw]; exact hi), at'_pw h0 (by omega), itr_succ]
    rw [e]
    exact ih.comp hl
theorem pw_add (hl : Shuf n l) (a b : Nat) : comp (pw n l a) (pw n l b) = pw n l (a + b) := by
  refine ext_at (by rw [length_comp, length_pw, length_pw]) fun i h0 hi => ?_
  rw [length_comp, length_pw] at hi
  have h2 := itr_in hl a (s := i) ⟨h0, by omega⟩
  rw [at'_comp h0 (by rw [length_pw]; exact hi), at'_pw h0 (by omega), at'_pw h2.1 h2.2, at'_pw h0 (by omega), itr_add]
theorem pw_succ (hl : Shuf n l) (k : Nat) : comp (pw n l k) l = pw n l (k + 1) := by
  have := pw_add hl k 1
  rwa [pw_one hl] at this
theorem comp_right_cancel {a b c : List Int} (ha : Shuf n a) (hb : Shuf n b) (hc : Shuf n c) (h : comp a c = comp b c) : a = b := by
  have e : comp (comp a c) (cont c) = comp (comp b c) (cont c) := by rw [h]
  rw [comp_assoc ha hc, comp_assoc hb hc, cont_back hc, comp_id ha, comp_id hb] at e
  exact e
theorem pw_cont (hl : Shuf n l) (k : Nat) : cont (pw n l k) = pw n (cont l) k := by
  have hc := hl.cont
  have key : ∀ k : Nat, comp (pw n (cont l) k) (pw n l k) = irg 0 n := by
    intro k
    induction k with
    | zero => rw [pw_zero, pw_zero, id_comp (shuf_irg n)]
    | succ k ih =>
      have e1 : pw n l (k + 1) = comp l (pw n l k) := by
        have := pw_add hl 1 k
        rw [pw_one hl, Nat.add_comm] at this
        exact this.symm
      rw [← pw_succ hc k, e1, comp_assoc (pw_shuf hc k) hc, ← comp_assoc hc hl (c := pw n l k), back_cont hl, id_comp (pw_shuf hl k), ih]
  have h2 := back_cont (pw_shuf hl k)
  exact comp_right_cancel (pw_shuf hl k).cont (pw_shuf hc k) (pw_shuf hl k) (h2.trans (key k).symm)
/-! ### the order -/
theorem nd_len {a b : List Int} (hn : a.Nodup) (h : ∀ x ∈ a, x ∈ b) : a.length ≤ b.length := by
  induction a generalizing b with
  | nil => simp
  | cons x a ih =>
    rw [List.nodup_cons] at hn
    have hx := h x List.mem_cons_self
    have := ih (b := b.erase x) hn.2 fun y hy => (List.mem_erase_of_ne (fun e : y = x => hn.1 (by subst e; exact hy))).mpr (h y (List.mem_cons_of_mem _ hy))
    rw [List.length_erase_of_mem hx] at this
    have := List.length_pos_of_mem hx
    simp only [List.length_cons]
    omega
def reps (n : Int) (l : List Int) : List Int := (irg 0 n).filter fun s => decide (s = mnL (roundL l s))
theorem reps_in {s : Int} (h : s ∈ reps n l) : 0 ≤ s ∧ s < n := mem_irg.mp (List.mem_filter.mp h).1
theorem length_reps (n : Int) (l : List Int) : (reps n l).length ≤ n.toNat := by
  have := List.length_filter_le (fun s => decide (s = mnL (roundL l s))) (irg 0 n)
  rw [irg_length, Int.sub_zero] at this
  exact this
theorem evC_reps (n : Int) (l : List Int) : ((reps n l).filter fun s => decide ((roundL l s).length % 2 = 0)).length = evC n l := by
  unfold evC reps
  rw [List.filter_filter]
  congr 1
  refine List.filter_congr fun s _ => ?_
  unfold evS
  rw [Bool.and_comm]
def ordF (l : List Int) (rs : List Int) (a : Nat) : Nat := rs.foldl (fun f s => Nat.lcm f (roundL l s).length) a
def ordL (n : Int) (l : List Int) : Nat := ordF l (reps n l) 1
theorem ordF_dvd : ∀ (rs : List Int) (a m : Nat), ordF l rs a ∣ m ↔ a ∣ m ∧ ∀ s ∈ rs, (roundL l s).length ∣ m
  | [], a, m => by simp [ordF]
  | s :: rs, a, m => by
    show ordF l rs (Nat.lcm a (roundL l s).length) ∣ m ↔ _
    rw [ordF_dvd rs]
    constructor
    · rintro ⟨h1, h2⟩
      refine ⟨Nat.dvd_trans (Nat.dvd_lcm_left _ _) h1, fun x hx => ?_⟩
      rcases List.mem_cons.mp hx with rfl | hx
      · exact Nat.dvd_trans (Nat.dvd_lcm_right _ _) h1
      · exact h2 x hx
    · rintro ⟨h1, h2⟩
      exact ⟨Nat.lcm_dvd h1 (h2 s List.mem_cons_self), fun x hx => h2 x (List.mem_cons_of_mem _ hx)⟩
theorem ordL_dvd (hl : Shuf n l) (m : Nat) : ordL n l ∣ m ↔ ∀ s, 0 ≤ s → s < n → (roundL l s).length ∣ m := by
  unfold ordL
  rw [ordF_dvd]
  constructor
  · rintro ⟨_, h⟩ s h0 h1
    have hs : 0 ≤ s ∧ s < n := ⟨h0, h1⟩
    have hne : roundL l s ≠ [] := fun e => by have := round_self hl hs; rw [e] at this; cases this
    have hm := mnL_mem hne
    have hm0 := round_mem hl hs _ hm
    have same := round_same hl hs hm
    have hrep : mnL (roundL l s) ∈ reps n l := by
      refine List.mem_filter.mpr ⟨mem_irg.mpr hm0, decide_eq_true ?_⟩
      exact (mnL_same (fun e => by have := round_self hl hm0; rw [e] at this; cases this) same).symm
    have hle : (roundL l (mnL (roundL l s))).length = (roundL l s).length := by
      have p1 := (round_run hl hs).2
      have p2 := (round_run hl hm0).2
      exact Nat.le_antisymm (nd_len p2 fun x hx => (same x).mp hx) (nd_len p1 fun x hx => (same x).mpr hx)
    rw [← hle]
    exact h _ hrep
  · intro h
    exact ⟨Nat.one_dvd _, fun s hs => h s (reps_in hs).1 (reps_in hs).2⟩
theorem pw_fix (hl : Shuf n l) (m : Nat) : pw n l m = irg 0 n ↔ ordL n l ∣ m := by
  rw [ordL_dvd hl]
  constructor
  · intro h s h0 h1
    rw [← itr_fix hl ⟨h0, h1⟩]
    rw [← at'_pw (l := l) h0 h1, h, at'_irg h0 h1]
  · intro h
    refine ext_at (by rw [length_pw, irg_length]; omega) fun i h0 hi => ?_
    rw [length_pw] at hi
    rw [at'_pw h0 (by omega), at'_irg h0 (by omega)]
    exact (itr_fix hl ⟨h0, by omega⟩ m).mpr (h i h0 (by omega))
theorem dvd16 (k : Nat) (h1 : 1 ≤ k) (h2 : k ≤ 16) : k ∣ 720720 := by
  have : ∀ k : Nat, k < 17 → 1 ≤ k → 720720 % k = 0 := by decide
  exact Nat.dvd_of_mod_eq_zero (this k (by omega) h1)
theorem ordL_le (hl : Shuf n l) (hn : n ≤ 16) : 1 ≤ ordL n l ∧ ordL n l ≤ 720720 := by
  have h : ordL n l ∣ 720720 := (ordL_dvd hl _).mpr fun s h0 h1 => by
    have := round_len hl (s := s) ⟨h0, h1⟩
    exact dvd16 _ this.1 (by omega)
  exact ⟨Nat.pos_of_dvd_of_pos h (by decide), Nat.le_of_dvd (by decide) h⟩
theorem pw_mod (hl : Shuf n l) (k : Nat) : pw n l k = pw n l (k % ordL n l) := by
  have e := Nat.div_add_mod k (ordL n l)
  conv => lhs; rw [← e, ← pw_add hl, (pw_fix hl _).mpr (Nat.dvd_mul_right _ _), id_comp (pw_shuf hl _)]
end
theorem invs_drop {l : List Int} {i : Nat} (h : i < l.length) : invs (l.drop i) = lessN (at' l (i : Int)) (l.drop (i + 1)) + invs (l.drop (i + 1)) := by
  rw [List.drop_eq_getElem_cons h, at'_toNat h]
  rfl
theorem invs_le : ∀ l : List Int, invs l ≤ l.length * l.length
  | [] => Nat.le_refl _
  | x :: t => by
    have := invs_le t
    have h2 : lessN x t ≤ t.length := List.length_filter_le _ _
    show lessN x t + invs t ≤ (t.length + 1) * (t.length + 1)
    have : (t.length + 1) * (t.length + 1) = t.length * t.length + 2 * t.length + 1 := by
      rw [Nat.add_mul, Nat.mul_add]
      omega
    omega
/-! ### range of any length -/
section
variable {K : Fg} {M0 H0 : Hp} {tb : TS} {ta : TA} {ρ : List Sl} {E : DE} {j : Nat}
theorem wis_1w {n : Int} (h : EAS K ta ρ [.int n]) (hn : -(2 ^ 62) ≤ n ∧ n < 2 ^ 62) : ∀ M0 H0 M H σ, Rs K M0 H0 M H σ ρ → ∀ R : It → Hp → Prop, (∀ M2 H2, Gr M H M2 H2 → R (Itr 0 (n - 0).toNat) H2) → iRng1 ta σ H R := fun M0 H0 M H σ r R q =>
  h M0 H0 M H σ r _ fun vs M1 H1 g1 dv => by
    obtain ⟨v, r, rfl, h1, h2⟩ := dv.cons_inv
    obtain rfl := h2.nil_inv
    rw [h1.int_inv]
    refine ⟨n, rfl, hn.1, hn.2, ?_⟩
    have := q M1 H1 g1
    rwa [Int.sub_zero] at this
theorem sd_forR1w {n : Int} (h : EAS K ta ρ [.int n]) (hn : -(2 ^ 62) ≤ n ∧ n < 2 ^ 62) (Pv : Nat → List Sl → Prop) (h0 : Pv 0 ρ)
    (hs : ∀ (i : Nat) ρ', (i : Int) < n → Pv i ρ' → SD K M0 H0 tb (ρ'.set j (.d (.int (i : Nat)))) { nx := Pv (i + 1), ct := Pv (i + 1), bk := E.nx, rt := E.rt }) (hd : ∀ ρ', Pv n.toNat ρ' → E.nx ρ') : SD K M0 H0 (tFor (iRng1 ta) (gName j) tb) ρ E :=
  sd_forR (wis_1w h hn) Pv h0 (fun i ρ' hi hp => by
    have := hs i ρ' (by omega) hp
    rwa [show (0 : Int) + (i : Nat) = (i : Nat) from Int.zero_add _]) (fun ρ' hp => hd ρ' (by rwa [Int.sub_zero] at hp))
end
/-! ### specs -/
def S_round_of : Spec := fun ds r => ∃ n l s, ds = [lint l, .int s] ∧ Shuf n l ∧ n ≤ 1000 ∧ (0 ≤ s ∧ s < n) ∧ r = .new ((roundL l s).map .int)
def S_rounds_of : Spec := fun ds r => ∃ n l, ds = [lint l] ∧ Shuf n l ∧ (0 ≤ n ∧ n ≤ 1000) ∧ r = .new ((reps n l).map fun s => lint (roundL l s))
def S_odd_by : Spec := fun ds r => ∃ n l, ds = [lint l] ∧ Shuf n l ∧ (0 ≤ n ∧ n ≤ 1000) ∧ r = .val (.bool (oddI l))
def S_is_odd : Spec := fun ds r => ∃ w l, ds = [.int w, lint l] ∧ WOk w ∧ Shuf (nst w) l ∧ r = .val (.bool (oddI l))
def S_common : Spec := fun ds r => ∃ a b : Nat, ds = [.int (a : Int), .int (b : Int)] ∧ b ≤ 1000 ∧ r = .val (.int (Nat.gcd a b : Nat))
def S_order_of : Spec := fun ds r => ∃ w l, ds = [.int w, lint l] ∧ WOk w ∧ Shuf (nst w) l ∧ r = .val (.int (ordL (nst w) l : Nat))
def S_done : Spec := fun ds r => ∃ w l t, ds = [.int w, lint l, .int t] ∧ WOk w ∧ Shuf (nst w) l ∧ (0 ≤ t ∧ t < 10 ^ 40) ∧ r = .new ((pw (nst w) l t.toNat).map .int)
def S_law_odd : Spec := fun ds r => ∃ l, ds = [lint l] ∧ l.length ≤ 1000 ∧ r = .val (.bool (oddI l))
end U

namespace U
open PySem PySem.Spec PyProof.Rows L2
/-! ### gates that are odd -/
def nwG : Gt → Bool
  | .swap _ _ => true
  | .turn _ ws => decide ((ws.length : Int) < 3)
def wdG : Gt → Bool
  | .swap _ _ => false
  | .turn _ ws => decide ((ws.length : Int) > 2)
def cntG (n : Int) : Gt → Bool
  | .swap _ _ => decide (n = 2)
  | .turn _ ws => decide ((ws.length : Int) = n - 1)
def everyG (n : Int) (p : Gt → Bool) : Bool := (allG n).all p
theorem odd1 : everyG 1 (fun g => oddI (tableB 1 [g]) == cntG 1 g) = true := by decide +kernel
theorem odd2 : everyG 2 (fun g => oddI (tableB 2 [g]) == cntG 2 g) = true := by decide +kernel
theorem odd3 : everyG 3 (fun g => oddI (tableB 3 [g]) == cntG 3 g) = true := by decide +kernel
theorem odd4 : everyG 4 (fun g => oddI (tableB 4 [g]) == cntG 4 g) = true := by decide +kernel
theorem oddG {n : Int} (hn : WOk n) {g : Gt} (hg : vG n g = true) : oddI (tableB n [g]) = cntG n g := by
  rcases w_cases hn with rfl | rfl | rfl | rfl
  · exact eq_of_beq (List.all_eq_true.mp odd1 g (vG_mem hg))
  · exact eq_of_beq (List.all_eq_true.mp odd2 g (vG_mem hg))
  · exact eq_of_beq (List.all_eq_true.mp odd3 g (vG_mem hg))
  · exact eq_of_beq (List.all_eq_true.mp odd4 g (vG_mem hg))
theorem oddR {n : Int} (hn : WOk n) : ∀ {row : List Gt}, VR n row → oddI (tableB n row) = decide ((row.filter (cntG n)).length % 2 = 1)
  | [], _ => by
    rw [tableB_nil, oddI_id]
    rfl
  | g :: row, h => by
    have hg := h g List.mem_cons_self
    have hr : VR n row := fun x hx => h x (List.mem_cons_of_mem _ hx)
    have h1 : VR n [g] := fun x hx => by rw [List.mem_singleton.mp hx]; exact hg
    have e : tableB n (g :: row) = comp (tableB n [g]) (tableB n row) := tableB_app hn h1
    have hp := nst_pos n
    rw [e, oddI_comp (by omega) (tableB_shuf hn h1) (tableB_shuf hn hr), oddG hn hg, oddR hn hr, List.filter_cons]
    cases cntG n g with
    | true =>
      rw [if_pos rfl, List.length_cons]
      by_cases z : (row.filter (cntG n)).length % 2 = 1
      · rw [decide_eq_true z, decide_eq_false (by omega)]; rfl
      · rw [decide_eq_false z, decide_eq_true (by omega)]; rfl
    | false =>
      rw [if_neg (by decide)]
      cases decide ((row.filter (cntG n)).length % 2 = 1) <;> rfl
theorem nw_wide : ∀ row : List Gt, row.all nwG = decide ((row.filter wdG).length = 0)
  | [] => rfl
  | g :: row => by
    rw [List.all_cons, nw_wide row, List.filter_cons]
    have : nwG g = !wdG g := by
      cases g with
      | swap a b => rfl
      | turn w ws =>
        show decide _ = !decide _
        by_cases c : (ws.length : Int) < 3
        · rw [decide_eq_true c, decide_eq_false (by omega)]; rfl
        · rw [decide_eq_false c, decide_eq_true (by omega)]; rfl
    rw [this]
    cases wdG g with
    | true => simp
    | false => simp
/-- a narrow row of four wires: its table is even -/
theorem nw_even {row : List Gt} (h : row.all nwG = true) : (row.filter (cntG 4)).length = 0 := by
  rw [List.length_eq_zero_iff, List.filter_eq_nil_iff]
  intro g hg hc
  have h1 := List.all_eq_true.mp h g hg
  cases g with
  | swap a b => exact absurd (of_decide_eq_true (p := (4 : Int) = 2) hc) (by decide)
  | turn w ws =>
    have h2 := of_decide_eq_true (p := (ws.length : Int) < 3) h1
    have h3 := of_decide_eq_true (p := (ws.length : Int) = 4 - 1) hc
    omega
theorem filter_take_len {α : Type} {p : α → Bool} {xs : List α} {i : Nat} {x : α} (h : xs[i]? = some x) : ((xs.take (i + 1)).filter p).length = ((xs.take i).filter p).length + (if p x then 1 else 0) := by
  rw [filter_take_succ h, List.length_append]
  cases p x <;> rfl
def S_is_narrow : Spec := fun ds r => ∃ n row, ds = [.int n, encR row] ∧ WOk n ∧ row.length ≤ 1000 ∧ VR n row ∧ r = .val (.bool (row.all nwG))
end U

namespace U
open PySem PySem.Spec PyProof.Rows L2
/-! ### rows made -/
def upsL (n s w : Int) : List Int := (irg 0 n).filter fun o => !decide (o = w) && isUp s o
def p1 (e s w : Int) : Bool := isUp s w && !isUp e w
def nextG (n e s : Int) : Option Gt := match (irg 0 n).find? (p1 e s) with
  | some w => some (.turn w (upsL n e w))
  | none => match (irg 0 n).find? (p1 s e) with
    | some w => some (.turn w (upsL n s w))
    | none => none
def encO : Option Gt → PyData
  | none => .none
  | some g => encG g
theorem irg_drop {n : Int} {i : Nat} (h : (i : Int) < n) : (irg 0 n).drop i = (i : Int) :: (irg 0 n).drop (i + 1) := by
  have hl : i < (irg 0 n).length := by rw [irg_length]; omega
  rw [List.drop_eq_getElem_cons hl]
  have e := irg_get (lo := 0) (hi := n) (i := i) (by omega)
  rw [List.getElem?_eq_getElem hl] at e
  have e2 := Option.some.inj e
  rw [e2]
  congr 1
  omega
def ham (n e s : Int) : Nat := ((irg 0 n).filter fun w => isUp e w != isUp s w).length
def okN (n : Int) : Bool := (irg 0 (nst n)).all fun s => (irg s (nst n)).all fun e => match nextG n e s with
  | none => decide (e = s)
  | some x => vG n x && (decide (ham n (ledBy x e) s + 1 = ham n e s) && (irg 0 s).all fun j => decide (ledBy x j = j))
theorem okN1 : okN 1 = true := by decide +kernel
theorem okN2 : okN 2 = true := by decide +kernel
theorem okN3 : okN 3 = true := by decide +kernel
theorem okN4 : okN 4 = true := by decide +kernel
theorem okN_of {n : Int} (hn : WOk n) : okN n = true := by
  rcases w_cases hn with rfl | rfl | rfl | rfl
  · exact okN1
  · exact okN2
  · exact okN3
  · exact okN4
theorem next_use {n : Int} (hn : WOk n) {e s : Int} (h0 : 0 ≤ s) (h1 : s ≤ e) (h2 : e < nst n) : (nextG n e s = none ∧ e = s) ∨ ∃ x, nextG n e s = some x ∧ vG n x = true ∧ ham n (ledBy x e) s + 1 = ham n e s ∧ ∀ j, 0 ≤ j → j < s → ledBy x j = j := by
  have h := List.all_eq_true.mp (List.all_eq_true.mp (okN_of hn) s (mem_irg.mpr ⟨h0, by omega⟩)) e (mem_irg.mpr ⟨h1, h2⟩)
  cases hg : nextG n e s with
  | none =>
    rw [hg] at h
    exact .inl ⟨rfl, of_decide_eq_true (p := e = s) h⟩
  | some x =>
    rw [hg] at h
    have h3 : (vG n x && (decide (ham n (ledBy x e) s + 1 = ham n e s) && (irg 0 s).all fun j => decide (ledBy x j = j))) = true := h
    simp only [Bool.and_eq_true, decide_eq_true_eq] at h3
    exact .inr ⟨x, rfl, h3.1, h3.2.1, fun j a b => of_decide_eq_true (List.all_eq_true.mp h3.2.2 j (mem_irg.mpr ⟨a, b⟩))⟩
theorem ham_le (n e s : Int) : ham n e s ≤ n.toNat := by
  have := List.length_filter_le (fun w => isUp e w != isUp s w) (irg 0 n)
  rw [irg_length, Int.sub_zero] at this
  exact this
/-- state by state; k: what is left of the turns -/
def goS (n s : Int) : Nat → List Int × List Gt → List Int × List Gt
  | 0, q => q
  | k + 1, q => match nextG n (at' q.1 s) s with
    | none => q
    | some x => goS n s k (q.1.map (ledBy x), q.2 ++ [x])
def goA (n : Int) (m : Nat) (q : List Int × List Gt) : List Int × List Gt := ((List.range m).map fun (i : Nat) => (i : Int)).foldl (fun q s => goS n s 5 q) q
def rowBL (n : Int) (l : List Int) : List Gt := (goA n (nst n).toNat (l, [])).2.reverse
theorem goA_succ (n : Int) (m : Nat) (q : List Int × List Gt) : goA n (m + 1) q = goS n m 5 (goA n m q) := by
  unfold goA
  rw [List.range_succ, List.map_append, List.foldl_append]
  rfl
/-- the table behind the gates; what of it is in order -/
structure GI (n : Int) (l : List Int) (m : Nat) (b : Nat) (q : List Int × List Gt) : Prop where
  tb : q.1 = l.map (ledThr q.2)
  vr : VR n q.2
  len : q.2.length ≤ b
  ord : ∀ j : Int, 0 ≤ j → j < m → at' q.1 j = j
section
variable {n : Int} {l : List Int}
theorem GI.shuf (hn : WOk n) (hl : Shuf (nst n) l) {m b : Nat} {q : List Int × List Gt} (h : GI n l m b q) : Shuf (nst n) q.1 := by
  have hlen := hl.length
  have hn2 := nst_pos n
  have e : q.1 = comp l (tableB n q.2) := by
    rw [h.tb]
    refine List.map_congr_left fun x hx => ?_
    rw [at'_tableB (hl.mem.mp hx)]
  rw [e]
  exact hl.comp (tableB_shuf hn h.vr)
theorem GI.ge (hn : WOk n) (hl : Shuf (nst n) l) {m b : Nat} {q : List Int × List Gt} (h : GI n l m b q) (hm : (m : Int) < nst n) : (m : Int) ≤ at' q.1 m ∧ at' q.1 m < nst n := by
  have hs := h.shuf hn hl
  have hb := hs.at_lt (i := (m : Int)) (by omega) hm
  refine ⟨?_, hb.2⟩
  refine Decidable.byContradiction fun z => ?_
  have := hs.inj (i := at' q.1 m) (j := (m : Int)) hb (by omega) (h.ord _ hb.1 (by omega))
  omega
theorem GI.turn (hn : WOk n) (hl : Shuf (nst n) l) {m b : Nat} {q : List Int × List Gt} {x : Gt} (h : GI n l m b q) (hx : vG n x = true) (hj : ∀ j, 0 ≤ j → j < (m : Int) → ledBy x j = j) (hm : (m : Int) < nst n) : GI n l m (b + 1) (q.1.map (ledBy x), q.2 ++ [x]) where
  tb := by
    show q.1.map (ledBy x) = l.map (ledThr (q.2 ++ [x]))
    rw [h.tb, List.map_map]
    refine List.map_congr_left fun y _ => ?_
    rw [ledThr_app]
    rfl
  vr := h.vr.app fun g hg => by rw [List.mem_singleton.mp hg]; exact hx
  len := by
    show (q.2 ++ [x]).length ≤ _
    rw [List.length_append]
    exact Nat.succ_le_succ h.len
  ord := fun j a c => by
    have hs := (h.shuf hn hl).length
    show at' (q.1.map (ledBy x)) j = j
    rw [at'_map a (by omega), h.ord j a c, hj j a c]
theorem goS_ok (hn : WOk n) (hl : Shuf (nst n) l) : ∀ (k : Nat) {m b : Nat} {q : List Int × List Gt}, GI n l m b q → (m : Int) < nst n → ham n (at' q.1 m) m < k → GI n l (m + 1) (b + ham n (at' q.1 m) m) (goS n m k q)
  | 0, m, b, q, h, hm, hk => absurd hk (Nat.not_lt_zero _)
  | k + 1, m, b, q, h, hm, hk => by
    have hge := h.ge hn hl hm
    unfold goS
    rcases next_use hn (e := at' q.1 m) (s := (m : Int)) (by omega) hge.1 hge.2 with ⟨e1, e2⟩ | ⟨x, e1, e2, e3, e4⟩
    · rw [e1]
      exact ⟨h.tb, h.vr, by have := h.len; show q.2.length ≤ _; omega, fun j a c => by
        by_cases z : j = m
        · rw [z]; exact e2
        · exact h.ord j a (by omega)⟩
    · rw [e1]
      have ht := h.turn hn hl e2 e4 hm
      have hs := (h.shuf hn hl).length
      have e5 : at' (q.1.map (ledBy x)) (m : Int) = ledBy x (at' q.1 m) := at'_map (by omega) (by omega)
      have := goS_ok hn hl k ht hm (by show ham n (at' (q.1.map (ledBy x)) m) m < k; rw [e5]; omega)
      have e6 : b + 1 + ham n (at' (q.1.map (ledBy x)) (m : Int)) m = b + ham n (at' q.1 m) m := by rw [e5]; omega
      rw [← e6]
      exact this
theorem GI.wide {m b c : Nat} {q : List Int × List Gt} (h : GI n l m b q) (hb : b ≤ c) : GI n l m c q := ⟨h.tb, h.vr, Nat.le_trans h.len hb, h.ord⟩
theorem gi_start : GI n l 0 0 (l, []) := ⟨(List.map_id' l).symm, fun _ h => (by cases h), Nat.le_refl 0, fun j a c => by omega⟩
theorem goA_ok (hn : WOk n) (hl : Shuf (nst n) l) : ∀ m : Nat, (m : Int) ≤ nst n → GI n l m (4 * m) (goA n m (l, []))
  | 0, _ => gi_start
  | m + 1, hm => by
    rw [goA_succ]
    have h := goA_ok hn hl m (by omega)
    have hh := ham_le n (at' (goA n m (l, [])).1 m) m
    have h4 := hn.2
    exact (goS_ok hn hl 5 h (by omega) (by omega)).wide (by omega)
theorem rowBL_ok (hn : WOk n) (hl : Shuf (nst n) l) : VR n (rowBL n l) ∧ tableB n (rowBL n l) = l ∧ (rowBL n l).length ≤ 64 := by
  have hp := nst_pos n
  have h := goA_ok hn hl (nst n).toNat (by omega)
  have hlen := hl.length
  have hsl := (h.shuf hn hl).length
  refine ⟨h.vr.reverse, ?_, ?_⟩
  · refine ext_at (by rw [length_tableB, hlen]) fun i h0 hi => ?_
    rw [length_tableB] at hi
    have hi2 : 0 ≤ i ∧ i < nst n := ⟨h0, by omega⟩
    have hli := hl.at_lt hi2.1 hi2.2
    rw [at'_tableB hi2]
    unfold rowBL
    have e := h.ord i h0 (by omega)
    rw [h.tb, at'_map h0 (by omega)] at e
    have := ledThr_back hn h.vr hli
    rw [e] at this
    exact this
  · unfold rowBL
    rw [List.length_reverse]
    have := h.len
    omega
end
/-! ### specs -/
def S_ups : Spec := fun ds r => ∃ n s w, ds = [.int n, .int s, .int w] ∧ WOk n ∧ r = .val (.tuple ((upsL n s w).map .int))
def S_moved : Spec := fun ds r => ∃ t g, ds = [lint t, encG g] ∧ gOk g ∧ t.length ≤ 1000 ∧ r = .new ((t.map (ledBy g)).map .int)
def S_next_gate : Spec := fun ds r => ∃ n t s, ds = [.int n, lint t, .int s] ∧ WOk n ∧ (0 ≤ s ∧ s < t.length) ∧ r = .val (encO (nextG n (at' t s) s))
def S_row_by : Spec := fun ds r => ∃ n l, ds = [.int n, lint l] ∧ WOk n ∧ Shuf (nst n) l ∧ r = .new ((rowBL n l).map encG)
def S_made : Spec := fun ds r => ∃ n l, ds = [.int n, lint l] ∧ WOk n ∧ Shuf (nst n) l ∧ r = .new ((rowBL n l).map encG)
def S_law_is_gate : Spec := fun ds r => ∃ n g, ds = [.int n, encG g] ∧ WOk n ∧ vG n g = true ∧ r = .val (.bool true)
def S_law_is_row : Spec := fun ds r => ∃ n row, ds = [.int n, encR row] ∧ WOk n ∧ VR n row ∧ row.length ≤ 1000 ∧ r = .val (.bool true)
end U

namespace U
open PySem PySem.Spec PyProof.Rows L2 TL
/-! ### gates as texts -/
def dg (x : Int) : Nat := 48 + x.toNat
def gsL : Gt → List Nat
  | .turn w ws => 116 :: dg w :: ws.map dg
  | .swap a b => [115, dg a, dg b]
def isFig (c : Nat) : Bool := decide (c ∈ [48, 49, 50, 51])
def figs (w : List Nat) : List Int := (w.drop 1).map fun c : Nat => (c : Int) - 48
def wordG (w : List Nat) : Option Gt := if (w.drop 1).all isFig = true then
    (if w.take 1 = [116] ∧ (figs w).length > 0 then some (.turn (at' (figs w) 0) ((figs w).drop 1)) else
     if w.take 1 = [115] ∧ (figs w).length = 2 then some (.swap (at' (figs w) 0) (at' (figs w) 1)) else none) else none
def gateOf (n : Int) (w : List Nat) : Option Gt := match wordG w with
  | some g => if vG n g = true then some g else none
  | none => none
theorem gw1 : everyG 1 (fun g => gateOf 1 (gsL g) == some g) = true := by decide +kernel
theorem gw2 : everyG 2 (fun g => gateOf 2 (gsL g) == some g) = true := by decide +kernel
theorem gw3 : everyG 3 (fun g => gateOf 3 (gsL g) == some g) = true := by decide +kernel
theorem gw4 : everyG 4 (fun g => gateOf 4 (gsL g) == some g) = true := by decide +kernel
theorem gateOf_gsL {n : Int} (hn : WOk n) {g : Gt} (hg : vG n g = true) : gateOf n (gsL g) = some g := by
  rcases w_cases hn with rfl | rfl | rfl | rfl
  · exact eq_of_beq (List.all_eq_true.mp gw1 g (vG_mem hg))
  · exact eq_of_beq (List.all_eq_true.mp gw2 g (vG_mem hg))
  · exact eq_of_beq (List.all_eq_true.mp gw3 g (vG_mem hg))
  · exact eq_of_beq (List.all_eq_true.mp gw4 g (vG_mem hg))
theorem gateOf_vG {n : Int} {w : List Nat} {g : Gt} (h : gateOf n w = some g) : vG n g = true := by
  unfold gateOf at h
  cases hw : wordG w with
  | none => rw [hw] at h; cases h
  | some g' =>
    rw [hw] at h
    by_cases c : vG n g' = true
    · have h2 : (if vG n g' = true then some g' else none) = some g := h
      rw [if_pos c] at h2
      rw [← Option.some.inj h2]
      exact c
    · have h2 : (if vG n g' = true then some g' else none) = some g := h
      rw [if_neg c] at h2
      cases h2
theorem gsL_len {g : Gt} (h : gOk g) : (gsL g).length ≤ 6 := by
  cases g with
  | turn w ws =>
    have := h.2.2
    show (116 :: dg w :: ws.map dg).length ≤ 6
    rw [List.length_cons, List.length_cons, List.length_map]
    omega
  | swap a b =>
    show (3 : Nat) ≤ 6
    decide
theorem gsL_ne (g : Gt) : gsL g ≠ [] := by cases g <;> exact List.cons_ne_nil _ _
theorem gsL_free {g : Gt} : 32 ∉ gsL g := by
  cases g with
  | turn w ws =>
    intro h
    have h2 : 32 ∈ 116 :: dg w :: ws.map dg := h
    simp only [List.mem_cons, List.mem_map] at h2
    unfold dg at h2
    rcases h2 with h | h | ⟨x, _, h⟩ <;> omega
  | swap a b =>
    intro h
    have h2 : 32 ∈ [115, dg a, dg b] := h
    simp only [List.mem_cons, List.not_mem_nil, or_false] at h2
    unfold dg at h2
    omega
def noteL (row : List Gt) : List Nat := joinL [32] (row.map gsL)
theorem noteL_len {row : List Gt} (h : ∀ g ∈ row, gOk g) : (noteL row).length ≤ row.length * 7 := by
  have := joinL_len 32 6 (row.map gsL) fun p hp => by
    obtain ⟨g, hg, rfl⟩ := List.mem_map.mp hp
    exact gsL_len (h g hg)
  rw [List.length_map] at this
  exact this
theorem noteL_snoc (row : List Gt) (g : Gt) : noteL (row ++ [g]) = noteL row ++ ((if row = [] then [] else [32]) ++ gsL g) := by
  unfold noteL
  rw [List.map_append]
  show joinL [32] (row.map gsL ++ [gsL g]) = _
  rw [joinL_snoc]
  cases row with
  | nil => rfl
  | cons x r => rw [if_neg (by simp), if_neg (by simp)]
theorem noteL_nil {row : List Gt} : noteL row = [] ↔ row = [] := by
  constructor
  · intro h
    cases row with
    | nil => rfl
    | cons x r =>
      exfalso
      have hx := gsL_ne x
      cases r with
      | nil => exact hx h
      | cons y r =>
        have h2 : gsL x ++ ([32] ++ joinL [32] ((y :: r).map gsL)) = [] := h
        rw [List.append_eq_nil_iff] at h2
        exact hx h2.1
  · intro h
    rw [h]
    rfl
theorem note_split {row : List Gt} (h : row ≠ []) : (Txt.split (ofL (noteL row)) (ofL [32])).map PyData.str = row.map fun g => sD (gsL g) := by
  unfold noteL
  rw [ofL_split (by decide) (by simpa using h) (fun p hp => by
    obtain ⟨g, _, rfl⟩ := List.mem_map.mp hp
    exact gsL_free), List.map_map, List.map_map]
  rfl
theorem fig_int {c : Nat} (h : isFig c = true) : PySem.intText? (ofL [c]) = some ((c : Int) - 48) := by
  have h1 := of_decide_eq_true (p := c ∈ [48, 49, 50, 51]) h
  simp only [List.mem_cons, List.not_mem_nil, or_false] at h1
  rcases h1 with rfl | rfl | rfl | rfl <;> decide +kernel
theorem flat_single {α : Type} (f : α → Nat) : ∀ l : List α, (l.map fun x => [f x]).flatten = l.map f
  | [] => rfl
  | x :: l => by
    rw [List.map_cons, List.flatten_cons, flat_single f l]
    rfl
/-! ### specs -/
def S_text_of : Spec := fun ds r => ∃ g, ds = [encG g] ∧ gOk g ∧ r = .val (sD (gsL g))
def S_shown : Spec := fun ds r => ∃ n row, ds = [.int n, encR row] ∧ WOk n ∧ row.length ≤ 1000 ∧ VR n row ∧ r = .val (sD (noteL row))
def S_gate_of : Spec := fun ds r => ∃ n g, ds = [.int n, sD (gsL g)] ∧ WOk n ∧ vG n g = true ∧ r = .val (encG g)
def S_read : Spec := fun ds r => ∃ n row, ds = [.int n, sD (noteL row)] ∧ WOk n ∧ row.length ≤ 1000 ∧ VR n row ∧ r = .new (row.map encG)
end U

namespace U
open PySem PySem.Spec PyProof.Rows L2
/-! ### narrow rows -/
def bitsL (s : Int) : List Int := (irg 0 4).filter fun w => isUp s w
def clearedG (s w : Int) : List Gt := ((bitsL s).filter fun o => !decide (o = w)).map fun o => .turn o [w]
def liftedG (s w : Int) : List Gt := if isUp s w then [] else [.turn w [at' (bitsL s) 0]]
def okLift (s w : Int) : Bool := isUp s w || decide (0 < (bitsL s).length)
/-- straight_gates, up to the second one made up at 0 -/
def str1 (f s : Int) : List Gt := liftedG f 2 ++ clearedG (ledThr (liftedG f 2) f) 2
def sec1 (f s : Int) : Int := ledThr (clearedG (ledThr (liftedG f 2) f) 2) (ledThr (liftedG f 2) s)
def rest1 (s : Int) : List Int := (bitsL s).filter fun o => !decide (o = 2)
def more1 (s : Int) : List Gt := if isUp s 0 then [] else [.turn 0 [at' (rest1 s) 0]]
def straightG (f s : Int) : List Gt := str1 f s ++ more1 (sec1 f s) ++ clearedG (ledThr (more1 (sec1 f s)) (sec1 f s)) 0
def okStr (f s : Int) : Bool := okLift f 2 && (isUp (sec1 f s) 0 || decide (0 < (rest1 (sec1 f s)).length))
def flipsG (s : Int) : List Gt := (bitsL s).map fun w => .turn w []
def wayG (one other third : Int) : List Gt := flipsG one ++ straightG (ledThr (flipsG one) third) (ledThr (flipsG one) other) ++ (irg 0 4).map fun w => .turn w []
def twiceG : List Gt := [.turn 2 [0, 1], .turn 0 [2, 3]]
def threeG (one other third : Int) : List Gt := wayG one other third ++ twiceG ++ twiceG ++ (wayG one other third).reverse
def okThree (one other third : Int) : Bool := okStr (ledThr (flipsG one) third) (ledThr (flipsG one) other)
def thirds (s e : Int) : List Int := (irg (s + 1) 16).filter fun o => !decide (o = e)
def thirdL (s e : Int) : Int := at' (thirds s e) 0
def narrowS (q : List Int × List Gt) (s : Int) : List Int × List Gt :=
  if at' q.1 s = s then q else (q.1.map (ledThr (threeG (at' q.1 s) s (thirdL s (at' q.1 s)))), (threeG (at' q.1 s) s (thirdL s (at' q.1 s))).reverse ++ q.2)
def narrowA (l : List Int) (m : Nat) : List Int × List Gt := ((List.range m).map fun (i : Nat) => (i : Int)).foldl narrowS (l, [])
def narrowL (l : List Int) : List Gt := (narrowA l 14).2
theorem narrowA_succ (l : List Int) (m : Nat) : narrowA l (m + 1) = narrowS (narrowA l m) m := by
  unfold narrowA
  rw [List.range_succ, List.map_append, List.foldl_append]
  rfl
def okW (s : Int) : Bool := (irg (s + 1) 16).all fun e => okThree e s (thirdL s e) && (decide (0 < (thirds s e).length) && ((threeG e s (thirdL s e)).all (fun g => vG 4 g && nwG g) && (decide ((threeG e s (thirdL s e)).length ≤ 60) &&
  (decide (ledThr (threeG e s (thirdL s e)) e = s) && (irg 0 s).all fun j => decide (ledThr (threeG e s (thirdL s e)) j = j)))))
theorem okW_0 : okW 0 = true := by decide +kernel
theorem okW_1 : okW 1 = true := by decide +kernel
theorem okW_2 : okW 2 = true := by decide +kernel
theorem okW_3 : okW 3 = true := by decide +kernel
theorem okW_4 : okW 4 = true := by decide +kernel
theorem okW_5 : okW 5 = true := by decide +kernel
theorem okW_6 : okW 6 = true := by decide +kernel
theorem okW_7 : okW 7 = true := by decide +kernel
theorem okW_8 : okW 8 = true := by decide +kernel
theorem okW_9 : okW 9 = true := by decide +kernel
theorem okW_10 : okW 10 = true := by decide +kernel
theorem okW_11 : okW 11 = true := by decide +kernel
theorem okW_12 : okW 12 = true := by decide +kernel
theorem okW_13 : okW 13 = true := by decide +kernel
theorem okW_of {s : Nat} (h : s < 14) : okW (s : Int) = true := by
  match s, h with
  | 0, _ => exact okW_0
  | 1, _ => exact okW_1
  | 2, _ => exact okW_2
  | 3, _ => exact okW_3
  | 4, _ => exact okW_4
  | 5, _ => exact okW_5
  | 6, _ => exact okW_6
  | 7, _ => exact okW_7
  | 8, _ => exact okW_8
  | 9, _ => exact okW_9
  | 10, _ => exact okW_10
  | 11, _ => exact okW_11
  | 12, _ => exact okW_12
  | 13, _ => exact okW_13
  | n + 14, h => exact absurd h (by omega)
structure N3 (s : Nat) (e : Int) : Prop where
  ok : okThree e s (thirdL s e) = true
  th : 0 < (thirds s e).length
  vr : VR 4 (threeG e s (thirdL s e))
  nw : (threeG e s (thirdL s e)).all nwG = true
  len : (threeG e s (thirdL s e)).length ≤ 60
  to_ : ledThr (threeG e s (thirdL s e)) e = s
  fix : ∀ j, 0 ≤ j → j < (s : Int) → ledThr (threeG e s (thirdL s e)) j = j
theorem n3_of {s : Nat} {e : Int} (hs : s < 14) (h1 : (s : Int) < e) (h2 : e < 16) : N3 s e := by
  have h := List.all_eq_true.mp (okW_of hs) e (mem_irg.mpr ⟨by omega, h2⟩)
  simp only [Bool.and_eq_true, decide_eq_true_eq] at h
  obtain ⟨a, b, c, d, e', f⟩ := h
  have hc : ∀ g ∈ threeG e s (thirdL s e), vG 4 g = true ∧ nwG g = true := fun g hg => by
    have := List.all_eq_true.mp c g hg
    simpa using this
  exact ⟨a, b, fun g hg => (hc g hg).1, List.all_eq_true.mpr fun g hg => (hc g hg).2, d, e', fun j x y => of_decide_eq_true (List.all_eq_true.mp f j (mem_irg.mpr ⟨x, y⟩))⟩
abbrev w4 : WOk 4 := ⟨by decide, by decide⟩
structure NI (l : List Int) (m : Nat) (q : List Int × List Gt) : Prop where
  tb : q.1 = l.map (ledThr q.2.reverse)
  vr : VR 4 q.2
  nw : q.2.all nwG = true
  len : q.2.length ≤ 60 * m
  ord : ∀ j : Int, 0 ≤ j → j < m → at' q.1 j = j
section
variable {l : List Int}
theorem NI.comp {m : Nat} {q : List Int × List Gt} (h : NI l m q) (hl : Shuf 16 l) : q.1 = comp l (tableB 4 q.2.reverse) := by
  rw [h.tb]
  refine List.map_congr_left fun x hx => ?_
  rw [at'_tableB (n := 4) (hl.mem.mp hx)]
theorem NI.shuf {m : Nat} {q : List Int × List Gt} (h : NI l m q) (hl : Shuf 16 l) : Shuf 16 q.1 := by
  rw [h.comp hl]
  exact hl.comp (tableB_shuf w4 h.vr.reverse)
theorem narrowA_ok (hl : Shuf 16 l) : ∀ m : Nat, m ≤ 14 → NI l m (narrowA l m)
  | 0, _ => ⟨(List.map_id' l).symm, fun _ h => (by cases h), rfl, Nat.le_refl 0, fun j a c => by omega⟩
  | m + 1, hm => by
    rw [narrowA_succ]
    have h := narrowA_ok hl m (by omega)
    generalize narrowA l m = q at h
    have hs := h.shuf hl
    have hsl := hs.length
    have hb := hs.at_lt (i := (m : Int)) (by omega) (by omega)
    have hge : (m : Int) ≤ at' q.1 m := by
      refine Decidable.byContradiction fun z => ?_
      have := hs.inj (i := at' q.1 m) (j := (m : Int)) hb (by omega) (h.ord _ hb.1 (by omega))
      omega
    unfold narrowS
    by_cases c : at' q.1 (m : Int) = m
    · rw [if_pos c]
      exact ⟨h.tb, h.vr, h.nw, by have := h.len; omega, fun j a d => by
        by_cases z : j = m
        · rw [z]; exact c
        · exact h.ord j a (by omega)⟩
    · rw [if_neg c]
      have n3 := n3_of (s := m) (e := at' q.1 m) (by omega) (by omega) hb.2
      obtain ⟨_, _, hvr, hnw, hle, hto, hfix⟩ := n3
      generalize threeG (at' q.1 m) m (thirdL m (at' q.1 m)) = mo at hvr hnw hle hto hfix ⊢
      refine ⟨?_, ?_, ?_, ?_, fun j a d => ?_⟩
      · show q.1.map (ledThr _) = l.map (ledThr (_ ++ q.2).reverse)
        rw [List.reverse_append, List.reverse_reverse, h.tb, List.map_map]
        refine List.map_congr_left fun y _ => ?_
        rw [ledThr_app]
        rfl
      · exact VR.app hvr.reverse h.vr
      · show (_ ++ q.2).all nwG = true
        rw [List.all_append, List.all_reverse, hnw, h.nw]
        rfl
      · show (_ ++ q.2).length ≤ _
        rw [List.length_append, List.length_reverse]
        have h1 := hle
        have h2 := h.len
        omega
      · show at' (q.1.map _) j = j
        rw [at'_map a (by omega)]
        by_cases z : j = m
        · rw [z]; exact hto
        · rw [h.ord j a (by omega)]
          exact hfix j a (by omega)
theorem narrowL_ok (hl : Shuf 16 l) (ho : oddI l = false) : VR 4 (narrowL l) ∧ (narrowL l).all nwG = true ∧ (narrowL l).length ≤ 840 ∧ tableB 4 (narrowL l) = l := by
  have h := narrowA_ok hl 14 (by decide)
  have hs := h.shuf hl
  have hsl := hs.length
  have hlen := hl.length
  unfold narrowL
  have hodd : oddI (narrowA l 14).1 = false := by
    rw [h.comp hl, oddI_comp (by decide) hl (tableB_shuf w4 h.vr.reverse), ho, oddR w4 h.vr.reverse]
    have hn : (narrowA l 14).2.reverse.all nwG = true := by rw [List.all_reverse]; exact h.nw
    rw [nw_even hn]
    rfl
  generalize hq : narrowA l 14 = q at h hs hsl hodd
  refine ⟨h.vr, h.nw, h.len, ?_⟩
  have h14 := hs.at_lt (i := 14) (by decide) (by decide)
  have h15 := hs.at_lt (i := 15) (by decide) (by decide)
  have ge14 : ∀ i, (14 ≤ i ∧ i < 16) → 14 ≤ at' q.1 i := fun i hi => by
    have hb := hs.at_lt (i := i) (by omega) hi.2
    refine Decidable.byContradiction fun z => ?_
    have := hs.inj (i := at' q.1 i) (j := i) hb (by omega) (h.ord _ hb.1 (by show at' q.1 i < 14; omega))
    omega
  have g14 := ge14 14 (by decide)
  have g15 := ge14 15 (by decide)
  have hne : at' q.1 14 ≠ at' q.1 15 := fun e => by
    have := hs.inj (i := 14) (j := 15) (by decide) (by decide) e
    omega
  have hid : ∀ j : Int, 0 ≤ j → j < 16 → at' q.1 j = j := by
    by_cases c : at' q.1 14 = 14
    · intro j a b
      by_cases z : j < 14
      · exact h.ord j a z
      · have : j = 14 ∨ j = 15 := by omega
        rcases this with rfl | rfl
        · exact c
        · omega
    · exfalso
      have e14 : at' q.1 14 = 15 := by omega
      have e15 : at' q.1 15 = 14 := by omega
      have e : q.1 = swapL (irg 0 16) 14 15 := by
        refine ext_at (by rw [length_swapL, irg_length, hsl]; rfl) fun i h0 hi => ?_
        have hi2 : i < 16 := by omega
        rw [swapL_at (by decide) (by decide) ⟨h0, by rw [irg_length]; exact hi2⟩]
        by_cases z : i = 14
        · rw [if_pos z, z, e14]; rfl
        · rw [if_neg z]
          by_cases y : i = 15
          · rw [if_pos y, y, e15]; rfl
          · rw [if_neg y, at'_irg h0 hi2]
            exact h.ord i h0 (by show i < 14; omega)
      rw [e, oddI_swap (shuf_irg 16) (by decide) (by decide) (by decide), oddI_id] at hodd
      cases hodd
  refine ext_at (by rw [length_tableB, hlen]; rfl) fun i h0 hi => ?_
  rw [length_tableB] at hi
  have hi2 : 0 ≤ i ∧ i < nst 4 := ⟨h0, by have : (nst 4).toNat = 16 := rfl; show i < 16; omega⟩
  have hli := hl.at_lt hi2.1 hi2.2
  rw [at'_tableB hi2]
  have e := hid i h0 hi2.2
  rw [h.tb, at'_map h0 (by have : i < 16 := hi2.2; omega)] at e
  have := ledThr_back w4 h.vr.reverse hli
  rw [e, List.reverse_reverse] at this
  exact this
end
theorem nwL1 : everyG 1 nwG = true := by decide +kernel
theorem nwL2 : everyG 2 nwG = true := by decide +kernel
theorem nwL3 : everyG 3 nwG = true := by decide +kernel
theorem nw_low {n : Int} (hn : WOk n) (h : n < 4) {row : List Gt} (hr : VR n row) : row.all nwG = true := by
  rw [List.all_eq_true]
  intro g hg
  have hv := vG_mem (hr g hg)
  rcases w_cases hn with rfl | rfl | rfl | rfl
  · exact List.all_eq_true.mp nwL1 g hv
  · exact List.all_eq_true.mp nwL2 g hv
  · exact List.all_eq_true.mp nwL3 g hv
  · omega
/-- the narrow row -/
def mnRow (w : Int) (l : List Int) : List Gt := if w < 4 then rowBL w l else narrowL l
theorem mnRow_ok {w : Int} (hw : WOk w) {l : List Int} (hl : Shuf (nst w) l) (ho : w < 4 ∨ oddI l = false) : VR w (mnRow w l) ∧ (mnRow w l).all nwG = true ∧ (mnRow w l).length ≤ 840 ∧ tableB w (mnRow w l) = l := by
  unfold mnRow
  by_cases c : w < 4
  · rw [if_pos c]
    obtain ⟨h1, h2, h3⟩ := rowBL_ok hw hl
    exact ⟨h1, nw_low hw c h1, by omega, h2⟩
  · rw [if_neg c]
    obtain ⟨_, h2⟩ := id hw
    have e : w = 4 := by omega
    subst e
    exact narrowL_ok hl (ho.resolve_left c)
/-! ### specs -/
def S_bits_of : Spec := fun ds r => ∃ s, ds = [.int s] ∧ r = .new ((bitsL s).map .int)
def S_cleared : Spec := fun ds r => ∃ s w ks, ds = [.int s, .int w, lint ks] ∧ (0 ≤ w ∧ w < 4) ∧ ks.length ≤ 1000 ∧ r = .val (.tuple [encR (clearedG s w), lint (ks.map (ledThr (clearedG s w)))])
def S_lifted : Spec := fun ds r => ∃ s w, ds = [.int s, .int w] ∧ (0 ≤ w ∧ w < 4) ∧ okLift s w = true ∧ r = .new ((liftedG s w).map encG)
def S_straight_gates : Spec := fun ds r => ∃ f s, ds = [.int f, .int s] ∧ okStr f s = true ∧ r = .new ((straightG f s).map encG)
def S_three_gates : Spec := fun ds r => ∃ a b c, ds = [.int a, .int b, .int c] ∧ okThree a b c = true ∧ r = .new ((threeG a b c).map encG)
def S_narrow_by : Spec := fun ds r => ∃ l, ds = [lint l] ∧ Shuf 16 l ∧ r = .new ((narrowL l).map encG)
end U

namespace U
open PySem PySem.Spec PyProof.Rows L2
def S_made_narrow (K : Fg) : Spec := fun ds r => ∃ w l, ds = [.int w, lint l] ∧ WOk w ∧ Shuf (nst w) l ∧ (((w < 4 ∨ oddI l = false) ∧ r = .new ((mnRow w l).map encG)) ∨ (¬ w < 4 ∧ oddI l = true ∧ r = .exc (He.ga K "Odd")))
def toldB (w : Int) (l : List Int) : Bool := !decide (w < 4) && oddI l
def S_law_told : Spec := fun ds r => ∃ w l, ds = [.int w, lint l] ∧ WOk w ∧ Shuf (nst w) l ∧ r = (if toldB w l = true then .val (.str "odd") else .new ((mnRow w l).map encG))
def S_law_goes_on : Spec := fun ds r => ∃ w row l, ds = [.int w, encR row, lint l] ∧ WOk w ∧ VR w row ∧ row.all nwG = true ∧ row.length ≤ 1000 ∧ tableB w row = l ∧ r = .val (.bool true)
end U

namespace U
open PySem PySem.Spec PyProof.Rows L2
/-! ### what is refused -/
def RowG (w : Int) (row : List Gt) : Prop := WOk w ∧ row.length ≤ 1000 ∧ VR w row
def RowB (w : Int) (row : List Gt) : Prop := row.length > 1000 ∨ ¬ VR w row
def RowX (K : Fg) (w : Int) (row : List Gt) (C : Addr) : Prop := (¬ WOk w ∧ C = He.ga K "NoWires") ∨ (WOk w ∧ RowB w row ∧ C = He.ga K "NoGate")
def ShX (K : Fg) (w : Int) (l : List Int) (C : Addr) : Prop := (¬ WOk w ∧ C = He.ga K "NoWires") ∨ (WOk w ∧ ¬ Shuf (nst w) l ∧ C = He.ga K "NoShuffle")
def BehX (K : Fg) (w : Int) (a b : List Int) (C : Addr) : Prop := ShX K w a C ∨ (WOk w ∧ Shuf (nst w) a ∧ ShX K w b C)
def MnX (K : Fg) (w : Int) (l : List Int) (C : Addr) : Prop := ShX K w l C ∨ (WOk w ∧ Shuf (nst w) l ∧ toldB w l = true ∧ C = He.ga K "Odd")
def TmB (t : Int) : Prop := t < 0 ∨ t ≥ 10 ^ 40
def DnX (K : Fg) (w : Int) (l : List Int) (t : Int) (C : Addr) : Prop := ShX K w l C ∨ (WOk w ∧ Shuf (nst w) l ∧ TmB t ∧ C = He.ga K "NoTimes")
def X_asked_wires (K : Fg) : Spec := fun ds r => ∃ w, ds = [.int w] ∧ ¬ WOk w ∧ r = .exc (He.ga K "NoWires")
def X_asked_row (K : Fg) : Spec := fun ds r => ∃ w row C, ds = [.int w, encR row] ∧ RowX K w row C ∧ r = .exc C
def X_led (K : Fg) : Spec := fun ds r => ∃ w row s C, ds = [.int w, encR row, .int s] ∧ RowX K w row C ∧ r = .exc C
abbrev X_table_of := X_asked_row
abbrev X_undone := X_asked_row
abbrev X_shortened := X_asked_row
abbrev X_is_narrow := X_asked_row
abbrev X_shown := X_asked_row
def X_asked_shuffle (K : Fg) : Spec := fun ds r => ∃ w l C, ds = [.int w, lint l] ∧ ShX K w l C ∧ r = .exc C
abbrev X_contrary := X_asked_shuffle
abbrev X_is_odd := X_asked_shuffle
abbrev X_order_of := X_asked_shuffle
abbrev X_made := X_asked_shuffle
def X_made_narrow (K : Fg) : Spec := fun ds r => ∃ w l C, ds = [.int w, lint l] ∧ MnX K w l C ∧ r = .exc C
def X_behind (K : Fg) : Spec := fun ds r => ∃ w a b C, ds = [.int w, lint a, lint b] ∧ BehX K w a b C ∧ r = .exc C
def X_done (K : Fg) : Spec := fun ds r => ∃ w l t C, ds = [.int w, lint l, .int t] ∧ DnX K w l t C ∧ r = .exc C
/-! ### the law's own -/
def SecX (K : Fg) (which w : Int) (sh good : List Int) (t : Int) (C : Addr) : Prop := (WOk w → Shuf (nst w) good) ∧ (ShX K w sh C ∨ (WOk w ∧ Shuf (nst w) sh ∧ ((which = 12 ∧ toldB w sh = true ∧ C = He.ga K "Odd") ∨ (which = 13 ∧ TmB t ∧ C = He.ga K "NoTimes"))))
def SecG (which w : Int) (sh good : List Int) (t : Int) : Prop := WOk w ∧ Shuf (nst w) sh ∧ Shuf (nst w) good ∧ (which = 12 → toldB w sh = false) ∧ (which = 13 → ¬ TmB t)
def S_law_first (K : Fg) : Spec := fun ds r => ∃ which w row, ds = [.int which, .int w, encR row] ∧ 0 ≤ which ∧ ((which ≤ 5 ∧ ∃ C, RowX K w row C ∧ r = .exc C) ∨ ((which ≤ 5 → RowG w row) ∧ r = .val .none))
def S_law_second (K : Fg) : Spec := fun ds r => ∃ which w sh good t, ds = [.int which, .int w, lint sh, lint good, .int t] ∧ (0 ≤ which ∧ which ≤ 13) ∧ ((5 < which ∧ ∃ C, SecX K which w sh good t C ∧ r = .exc C) ∨ ((5 < which → SecG which w sh good t) ∧ r = .val .none))
structure Sit (w : Int) (row : List Gt) (sh good : List Int) (t : Int) (wb rb sb ob tb : Bool) : Prop where
  hw : (wb = false ∧ WOk w) ∨ (wb = true ∧ ¬ WOk w)
  hr : WOk w → (rb = false ∧ RowG w row) ∨ (rb = true ∧ RowB w row)
  hs : WOk w → (sb = false ∧ Shuf (nst w) sh) ∨ (sb = true ∧ ¬ Shuf (nst w) sh)
  hg : WOk w → Shuf (nst w) good
  ho : WOk w → Shuf (nst w) sh → ob = toldB w sh
  ht : (tb = false ∧ ¬ TmB t) ∨ (tb = true ∧ TmB t)
def clsO (wb rb sb ob tb : Bool) (which : Int) : Option Str :=
  if wb then some "NoWires" else if which ≤ 5 then (if rb then some "NoGate" else none) else if sb then some "NoShuffle" else
  if which = 12 then (if ob then some "Odd" else none) else if which = 13 then (if tb then some "NoTimes" else none) else none
def toldS (wb rb sb ob tb : Bool) (which : Int) : Str := match clsO wb rb sb ob tb which with
  | none => "done"
  | some x => wordS x
def S_law_tried : Spec := fun ds r => ∃ which w row sh good t, ds = [.int which, .int w, encR row, lint sh, lint good, .int t] ∧ (0 ≤ which ∧ which ≤ 13) ∧ ∃ wb rb sb ob tb, Sit w row sh good t wb rb sb ob tb ∧ r = .val (.str (toldS wb rb sb ob tb which))
theorem clsO_mem {wb rb sb ob tb : Bool} {which : Int} {x : Str} (h : clsO wb rb sb ob tb which = some x) : x ∈ clsN := by
  unfold clsO at h
  repeat' split at h
  all_goals first | cases h | skip
  all_goals decide +kernel
def retO (K : Fg) : Option Str → Ret
  | none => .val .none
  | some x => .exc (He.ga K x)
theorem sit_first {K : Fg} {w : Int} {row : List Gt} {sh good : List Int} {t : Int} {wb rb sb ob tb : Bool} {which : Int} (s : Sit w row sh good t wb rb sb ob tb) (h0 : 0 ≤ which) :
    S_law_first K [.int which, .int w, encR row] (if which ≤ 5 then retO K (clsO wb rb sb ob tb which) else .val .none) := by
  refine ⟨which, w, row, rfl, h0, ?_⟩
  by_cases c : which ≤ 5
  · rw [if_pos c]
    unfold clsO
    rcases s.hw with ⟨e, hw⟩ | ⟨e, hw⟩
    · rw [e, if_neg (by decide), if_pos c]
      rcases s.hr hw with ⟨e2, hr⟩ | ⟨e2, hr⟩
      · rw [e2, if_neg (by decide)]
        exact .inr ⟨fun _ => hr, rfl⟩
      · rw [e2, if_pos rfl]
        exact .inl ⟨c, _, .inr ⟨hw, hr, rfl⟩, rfl⟩
    · rw [e, if_pos rfl]
      exact .inl ⟨c, _, .inl ⟨hw, rfl⟩, rfl⟩
  · rw [if_neg c]
    exact .inr ⟨fun z => absurd z c, rfl⟩
theorem sit_second {K : Fg} {w : Int} {row : List Gt} {sh good : List Int} {t : Int} {wb rb sb ob tb : Bool} {which : Int} (s : Sit w row sh good t wb rb sb ob tb) (h0 : 0 ≤ which ∧ which ≤ 13) :
    S_law_second K [.int which, .int w, lint sh, lint good, .int t] (if which ≤ 5 then .val .none else retO K (clsO wb rb sb ob tb which)) := by
  refine ⟨which, w, sh, good, t, rfl, h0, ?_⟩
  by_cases c : which ≤ 5
  · rw [if_pos c]
    exact .inr ⟨fun z => absurd z (by omega), rfl⟩
  · rw [if_neg c]
    have c5 : 5 < which := by omega
    unfold clsO
    rcases s.hw with ⟨e, hw⟩ | ⟨e, hw⟩
    · have hg := s.hg hw
      rw [e, if_neg (by decide), if_neg c]
      rcases s.hs hw with ⟨e2, hs⟩ | ⟨e2, hs⟩
      · rw [e2, if_neg (by decide)]
        have ho := s.ho hw hs
        by_cases c12 : which = 12
        · rw [if_pos c12]
          cases hob : ob with
          | true =>
            rw [if_pos rfl]
            exact .inl ⟨c5, _, ⟨fun _ => hg, .inr ⟨hw, hs, .inl ⟨c12, by rw [← ho, hob], rfl⟩⟩⟩, rfl⟩
          | false =>
            rw [if_neg (by decide)]
            exact .inr ⟨fun _ => ⟨hw, hs, hg, fun _ => by rw [← ho, hob], fun z => by omega⟩, rfl⟩
        · rw [if_neg c12]
          by_cases c13 : which = 13
          · rw [if_pos c13]
            rcases s.ht with ⟨e3, ht⟩ | ⟨e3, ht⟩
            · rw [e3, if_neg (by decide)]
              exact .inr ⟨fun _ => ⟨hw, hs, hg, fun z => absurd z c12, fun _ => ht⟩, rfl⟩
            · rw [e3, if_pos rfl]
              exact .inl ⟨c5, _, ⟨fun _ => hg, .inr ⟨hw, hs, .inr ⟨c13, ht, rfl⟩⟩⟩, rfl⟩
          · rw [if_neg c13]
            exact .inr ⟨fun _ => ⟨hw, hs, hg, fun z => absurd z c12, fun z => absurd z c13⟩, rfl⟩
      · rw [e2, if_pos rfl]
        exact .inl ⟨c5, _, ⟨fun _ => hg, .inl (.inr ⟨hw, hs, rfl⟩)⟩, rfl⟩
    · rw [e, if_pos rfl]
      exact .inl ⟨c5, _, ⟨fun z => absurd z hw, .inl (.inl ⟨hw, rfl⟩)⟩, rfl⟩
theorem told_low {w : Int} {l : List Int} (h : toldB w l = false) : w < 4 ∨ oddI l = false := by
  unfold toldB at h
  by_cases z : w < 4
  · exact .inl z
  · rw [decide_eq_false z] at h
    exact .inr h
theorem tm_ok {t : Int} (h : ¬ TmB t) : 0 ≤ t ∧ t < 10 ^ 40 := by
  unfold TmB at h
  omega
/-! ### sorted, any list -/
theorem msort_ok (l : List Int) : (l.mergeSort (fun a b => decide (a ≤ b))).Perm l ∧ (l.mergeSort (fun a b => decide (a ≤ b))).Pairwise (· ≤ ·) := by
  refine ⟨List.mergeSort_perm _ _, ?_⟩
  have := List.pairwise_mergeSort (le := fun a b : Int => decide (a ≤ b)) (fun a b c h1 h2 => by simp only [decide_eq_true_eq] at *; omega) (fun a b => by simp only [Bool.or_eq_true, decide_eq_true_eq]; omega) l
  exact this.imp fun h => of_decide_eq_true h
theorem msort_shuf {n : Int} {l : List Int} : l.mergeSort (fun a b => decide (a ≤ b)) = irg 0 n ↔ Shuf n l := by
  obtain ⟨h1, h2⟩ := msort_ok l
  constructor
  · intro e
    rw [e] at h1
    exact h1.symm
  · intro h
    exact sorted_uniq (h1.trans h) h2 (irg_sorted 0 n)
/-! ### bad rows -/
def farv (ns : List Int) : Int := cellv ns 20 % 10 ^ 20
theorem farv_pos (ns : List Int) : 0 ≤ farv ns := Int.emod_nonneg _ (by decide)
def someL (w far : Int) : List Gt := [.turn (-1 - far) [], .turn (w + far) [], .turn 0 [0], .turn 0 [w + far], .turn 0 [-1 - far], .turn (w - 1) [0, 0], .turn 0 [2, 1], .swap 0 0, .swap 1 0, .swap 0 (w + far), .swap (-1 - far) 0, .turn 0 [1, w + 1 + far], .turn 1 [0, 1]]
theorem some_bad {w far : Int} (hw : WOk w) (hf : 0 ≤ far) : ∀ g ∈ someL w far, vG w g = false := by
  obtain ⟨h1, h4⟩ := id hw
  intro g hg
  unfold someL at hg
  simp only [List.mem_cons, List.not_mem_nil, or_false] at hg
  have hT : ∀ v ws, (¬ ((0 ≤ v ∧ v < w) ∧ v ∉ ws ∧ incrB w (-1) ws = true)) → vG w (.turn v ws) = false := fun v ws h => by
    cases hq : vG w (.turn v ws) with
    | false => rfl
    | true => exact absurd (isTurnB_iff.mp hq) h
  have hS : ∀ a b, ¬ (0 ≤ a ∧ a < b ∧ b < w) → vG w (.swap a b) = false := fun a b h => by
    cases hq : vG w (.swap a b) with
    | false => rfl
    | true =>
      unfold vG at hq
      simp only [Bool.and_eq_true, decide_eq_true_eq] at hq
      exact absurd hq h
  rcases hg with rfl | rfl | rfl | rfl | rfl | rfl | rfl | rfl | rfl | rfl | rfl | rfl | rfl
  · exact hT _ _ fun h => by omega
  · exact hT _ _ fun h => by omega
  · exact hT _ _ fun h => h.2.1 (by simp)
  · exact hT _ _ fun h => by have := incrB_mem h.2.2 (w + far) (by simp); omega
  · exact hT _ _ fun h => by have := incrB_mem h.2.2 (-1 - far) (by simp); omega
  · exact hT _ _ fun h => by
      have := incrB_sorted h.2.2
      simp at this
  · exact hT _ _ fun h => by
      have := incrB_sorted h.2.2
      simp at this
  · exact hS _ _ fun h => by omega
  · exact hS _ _ fun h => by omega
  · exact hS _ _ fun h => by omega
  · exact hS _ _ fun h => by omega
  · exact hT _ _ fun h => by have := incrB_mem h.2.2 (w + 1 + far) (by simp); omega
  · exact hT _ _ fun h => h.2.1 (by simp)
def badRow (ns : List Int) (row : List Gt) (w way : Int) : List Gt :=
  if way = 13 then List.replicate 1001 (.turn 0 []) else
  row.take (cellv ns 21 % ((row.length : Int) + 1)).toNat ++ [(someL w (farv ns)).getD way.toNat (.swap 0 0)] ++ row.drop (cellv ns 21 % ((row.length : Int) + 1)).toNat
theorem badRow_bad {ns : List Int} {row : List Gt} {w way : Int} (hw : WOk w) (h : 0 ≤ way ∧ way < 14) : RowB w (badRow ns row w way) := by
  unfold badRow
  by_cases c : way = 13
  · rw [if_pos c]
    refine .inl ?_
    rw [List.length_replicate]
    decide
  · rw [if_neg c]
    refine .inr fun hv => ?_
    have hl : way.toNat < (someL w (farv ns)).length := by show way.toNat < 13; omega
    have hm : (someL w (farv ns)).getD way.toNat (.swap 0 0) ∈ someL w (farv ns) := by
      rw [List.getD_eq_getElem?_getD, List.getElem?_eq_getElem hl]
      exact List.getElem_mem hl
    have h1 := some_bad hw (farv_pos ns) _ hm
    have h2 := hv ((someL w (farv ns)).getD way.toNat (.swap 0 0)) (by simp)
    rw [h1] at h2
    cases h2
theorem badRow_len {ns : List Int} {row : List Gt} {w way : Int} : (badRow ns row w way).length ≤ row.length + 1001 := by
  unfold badRow
  split
  · rw [List.length_replicate]; omega
  · rw [List.length_append, List.length_append, List.length_take, List.length_drop, List.length_singleton]
    omega
theorem len_flat_rep {α : Type} (l : List α) : ∀ k : Nat, (List.replicate k l).flatten.length = k * l.length
  | 0 => by simp
  | k + 1 => by
    rw [List.replicate_succ, List.flatten_cons, List.length_append, len_flat_rep l k, Nat.succ_mul]
    omega
/-! ### bad shuffles -/
def badShuf (ns : List Int) (l : List Int) (way : Int) : List Int :=
  let a := (cellv ns 22 % (l.length : Int))
  if way = 0 then l.take a.toNat ++ l.drop (a + 1).toNat else
  if way = 1 then l ++ [(l.length : Int)] else
  if way = 2 then l.take a.toNat ++ [at' l (if a = 0 then (l.length : Int) - 1 else a - 1)] ++ l.drop (a + 1).toNat else
  if way = 5 ∨ way = 6 then l.take a.toNat ++ [at' l (cellv ns 22 / 16 % (l.length : Int))] ++ l.drop a.toNat else
  if way = 7 then [] else
  if way = 8 then (List.replicate 20 l).flatten.take 40 else
  l.take a.toNat ++ [if way % 2 = 0 then (l.length : Int) + farv ns else -1 - farv ns] ++ l.drop (a + 1).toNat
theorem badShuf_bad {ns : List Int} {w : Int} {l : List Int} {way : Int} (hw : WOk w) (hl : Shuf (nst w) l) (h : 0 ≤ way ∧ way < 9) : ¬ Shuf (nst w) (badShuf ns l way) := by
  intro hs
  have hn := nst_pos w
  have hlen := hl.length
  have hlen2 := hs.length
  have ha : 0 ≤ cellv ns 22 % (l.length : Int) ∧ cellv ns 22 % (l.length : Int) < l.length := ⟨Int.emod_nonneg _ (by omega), Int.emod_lt_of_pos _ (by omega)⟩
  unfold badShuf at hs hlen2
  simp only at hs hlen2
  generalize cellv ns 22 % (l.length : Int) = a at ha hs hlen2
  by_cases c0 : way = 0
  · rw [if_pos c0, List.length_append, List.length_take, List.length_drop] at hlen2
    omega
  rw [if_neg c0] at hs hlen2
  by_cases c1 : way = 1
  · rw [if_pos c1, List.length_append, List.length_singleton] at hlen2
    omega
  rw [if_neg c1] at hs hlen2
  by_cases c2 : way = 2
  · rw [if_pos c2] at hs
    have hb : 0 ≤ (if a = 0 then (l.length : Int) - 1 else a - 1) ∧ (if a = 0 then (l.length : Int) - 1 else a - 1) < l.length ∧ (if a = 0 then (l.length : Int) - 1 else a - 1) ≠ a := by
      split <;> omega
    generalize (if a = 0 then (l.length : Int) - 1 else a - 1) = b at hb hs
    have e : l.take a.toNat ++ [at' l b] ++ l.drop (a + 1).toNat = l.set a.toNat (at' l b) := by
      rw [List.set_eq_take_append_cons_drop, if_pos (by omega), List.append_assoc, show (a + 1).toNat = a.toNat + 1 by omega]
      rfl
    rw [e] at hs
    have h1 : at' (l.set a.toNat (at' l b)) a = at' l b := by rw [at'_set (by omega) (by omega), if_pos rfl]
    have h2 : at' (l.set a.toNat (at' l b)) b = at' l b := by rw [at'_set (by omega) (by omega), if_neg hb.2.2]
    have := hs.inj (i := a) (j := b) (by omega) (by omega) (h1.trans h2.symm)
    exact hb.2.2 this.symm
  rw [if_neg c2] at hs hlen2
  by_cases c5 : way = 5 ∨ way = 6
  · rw [if_pos c5, List.length_append, List.length_append, List.length_take, List.length_drop, List.length_singleton] at hlen2
    omega
  rw [if_neg c5] at hs hlen2
  by_cases c7 : way = 7
  · rw [if_pos c7] at hlen2
    simp at hlen2
    omega
  rw [if_neg c7] at hs hlen2
  by_cases c8 : way = 8
  · rw [if_pos c8, List.length_take, len_flat_rep] at hlen2
    omega
  rw [if_neg c8] at hs
  have hx : ∀ x, x ∈ l.take a.toNat ++ [if way % 2 = 0 then (l.length : Int) + farv ns else -1 - farv ns] ++ l.drop (a + 1).toNat → 0 ≤ x ∧ x < nst w := fun x hx => hs.mem.mp hx
  have := hx (if way % 2 = 0 then (l.length : Int) + farv ns else -1 - farv ns) (by simp)
  have hf := farv_pos ns
  split at this <;> omega
theorem badShuf_len {ns : List Int} {l : List Int} {way : Int} : (badShuf ns l way).length ≤ l.length + 40 := by
  unfold badShuf
  simp only
  repeat' split
  all_goals simp only [List.length_append, List.length_take, List.length_drop, List.length_singleton, List.length_nil]
  all_goals omega
/-- what is due -/
def dueL (wb rb sb tb : Bool) : List Str := if wb then ["wires", "wires", "wires"] else [if rb then "gate" else "done", if sb then "shuffle" else "done", if sb then "shuffle" else if tb then "times" else "done"]
def dueI (i : Nat) : Nat := (if i > 5 then 1 else 0) + (if i > 12 then 1 else 0)
def wantS (wb rb sb tb : Bool) (i : Nat) : Str := (dueL wb rb sb tb).getD (dueI i) ""
theorem want_at {wb rb sb tb : Bool} {i : Nat} : (dueL wb rb sb tb)[dueI i]? = some (wantS wb rb sb tb i) := by
  have hl : dueI i < (dueL wb rb sb tb).length := by
    have h1 : (dueL wb rb sb tb).length = 3 := by cases wb <;> rfl
    have h2 : dueI i ≤ 2 := by unfold dueI; split <;> split <;> omega
    omega
  unfold wantS
  rw [List.getD_eq_getElem?_getD, List.getElem?_eq_getElem hl]
  rfl
theorem told_due : ∀ (wb rb sb ob tb : Bool) (i : Fin 14), toldS wb rb sb ob tb (i.val : Int) = wantS wb rb sb tb i.val ∨ (i.val = 12 ∧ wantS wb rb sb tb i.val = "done" ∧ toldS wb rb sb ob tb (i.val : Int) = "odd") := by decide +kernel
def S_law_bad_row : Spec := fun ds r => ∃ ns row w way, ds = [scrD ns, encR row, .int w, .int way] ∧ WOk w ∧ row.length ≤ 1000 ∧ (0 ≤ way ∧ way < 14) ∧ r = .new ((badRow ns row w way).map encG)
def S_law_bad_shuffle : Spec := fun ds r => ∃ ns l way, ds = [scrD ns, lint l, .int way] ∧ (2 ≤ l.length ∧ l.length ≤ 16) ∧ (0 ≤ way ∧ way < 9) ∧ r = .new ((badShuf ns l way).map .int)
end U

namespace U
open PySem PySem.Spec PyProof.Rows L2
/-! ### a comprehension whose element raises -/
theorem noteFrame_congr {e : Value} {env env' : Env} (h : env.frame = env'.frame) : noteFrame e env = noteFrame e env' := by
  unfold noteFrame PySem.frameOf
  rw [h]
section
variable {X : Cx} {pins : List (Addr × Obj)} {σ : L2.St} {H H' : Hp} {s s' : Shared} {W : WX} {E : XK}
/-- what a call let out, its sky told -/
theorem XE_of_ub {B : Heap} {a : Addr} {cls : Value} {d : Option Addr} (I : Inv X pins σ H s) (st : B.StaysIn s'.heap) (hok : HOk X.prog X.w H' B) (ub : UB (frs X.stack) H H' s.heap B s'.heap) (sky : Sky B X.stack a (Zc cls d) X.env.locals s'.heap)
    (na : H' a = none) (os : s'.os = s.os) (ag : AllBare s'.gens) (w : W cls d σ H') : XE X W (.ref a) s' := by
  obtain ⟨G, g1, g2⟩ := L2.restrict s'.heap fun b => (B.get? b).isSome || decide (b ∈ frs X.stack)
  have inB : ∀ b o, B.get? b = some o → G.get? b = some o := fun b o e => (g1 b (by simp [e])).trans (st b o e)
  have inF : ∀ b, b ∈ frs X.stack → G.get? b = s'.heap.get? b := fun b hb => g1 b (by simp [hb])
  have out : ∀ b o, G.get? b = some o → s'.heap.get? b = some o ∧ (B.get? b = some o ∨ b ∈ frs X.stack) := fun b o e => by
    by_cases hb : b ∈ frs X.stack
    · exact ⟨(inF b hb).symm.trans e, .inr hb⟩
    · cases hq : B.get? b with
      | none =>
        have := g2 b (by simp [hq, hb])
        rw [this] at e
        cases e
      | some u =>
        have h1 := inB b u hq
        rw [h1] at e
        cases e
        exact ⟨st b _ hq, .inl rfl⟩
  refine ⟨a, B, { s with heap := G, gens := s'.gens, drawn := s'.drawn, toks := s'.toks }, pins, σ, H', cls, d, rfl, ?_, fun b o e hb => ?_, Heap.UpToSlots.of_keeps (fun b o e => (out b o e).1), sky, na, os, ag, w⟩
  · refine I.call (ch := []) ⟨fun b o e n hb _ => inB b o (ub.keep b o e n hb), fun b o e n hb _ => ?_, fun b o e n _ => ub.free b o e n, fun b o e _ => ?_, ub.tups, ub.frzs, ub.tbls⟩ (hok.kept inB) ag fun _ z => (by cases z)
    · obtain ⟨sl, q⟩ := ub.slot b o e hb
      exact ⟨sl, (inF b hb).trans q⟩
    · by_cases hb : b ∈ frs X.stack
      · obtain ⟨sl, q⟩ := ub.slot b o e hb
        exact ⟨_, (inF b hb).trans q⟩
      · obtain ⟨o', q⟩ := ub.there b o e hb
        exact ⟨o', inB b o' q⟩
  · rcases (out b o e).2 with z | z
    · exact z
    · exact absurd z hb
/-- the error passes the comprehension's end -/
theorem comp_error {C : Addr} {ce : Env} {e : Value} {m : Str → Option Value} (hst : X.stack = X.env :: X.outer) (hf : X.env.frame = some X.env.locals) (tk : Takes X W) (hW : ∀ cls d H', E cls d H' → W cls d σ H') (hcL : ce.locals = C) (hcf : ce.frame = X.env.frame)
    (I : Inv X pins σ H s) (hm : s.heap.Ns C m) (fp : FpOk X pins H C) (c : L2.CX X.prog X.w X.stack H s E e s') :
    notedBy (model X.prog X.w) X.A ce (fun x s2 => CompFails (model X.prog X.w) X.A X.xe ce x s2) e s' := by
  obtain ⟨a, B, H', cls, d, rfl, fl, hok, ub, na, os, ag, hE⟩ := c
  obtain ⟨oC, es, ep, hC, hd, hr⟩ := id hm
  have cF : C ∉ frs X.stack := fun z => by
    rcases List.mem_cons.mp (I.stkSub C z) with q | q
    · exact fp.2.1 q
    · exact fp.2.2.1 q
  have hCB : B.get? C = some oC := ub.keep C oC hC fp.1 cF
  have aC : a ≠ C := fun z => by
    have := fl.2.1
    rw [z, hCB] at this
    cases this
  have hfr : X.A.frames = some (X.env :: X.outer) := by rw [I.ok.frames, hst]
  have fl' : HandSPX.FlyingZ B (X.env :: X.outer) a (Zc cls d) s'.heap := hst ▸ fl
  show wpAny (model X.prog X.w) X.A (noteFrame (.ref a) ce) _ _ s'
  rw [noteFrame_congr hcf]
  refine HandSPX.looks_onZ Zc.steady hfr hf fl' fun h1 hh up => ?_
  subst hcL
  refine ⟨m, ⟨oC, es, ep, hh.1 _ _ hCB, hd, hr⟩, fun h2 m2 hm2 sb => ?_⟩
  have sb2 : ∀ b, b ≠ ce.locals → h2.get? b = h1.get? b := sb.2
  obtain ⟨k1, k2, k3, oe, vs, T, oT, ts, he, hz, hdt, hv1, hnT, hTe, hT, hdT, h3⟩ := id hh
  have TC : T ≠ ce.locals := fun z => by
    rw [z, hCB] at hnT
    cases hnT
  have nb : ∀ b o, (PySem.W.hideAll B [ce.locals]).get? b = some o → b ≠ ce.locals ∧ B.get? b = some o := fun b o e => by
    refine ⟨fun z => ?_, PySem.W.of_hideAll _ e⟩
    rw [z, PySem.W.hideAll_none [ce.locals] List.mem_cons_self] at e
    cases e
  have gone : ∀ b, B.get? b = none → (PySem.W.hideAll B [ce.locals]).get? b = none := fun b hb => by
    cases hq : (PySem.W.hideAll B [ce.locals]).get? b with
    | none => rfl
    | some o =>
      rw [(nb b o hq).2] at hb
      cases hb
  have held : HandSPX.HeldZ (PySem.W.hideAll B [ce.locals]) (X.env :: X.outer) a (Zc cls d) X.env.locals h2 := by
    refine ⟨fun b o e => ?_, gone a k2, ?_, oe, vs, T, oT, ts, (sb2 a aC).trans he, hz, hdt, hv1, gone T hnT, hTe, (sb2 T TC).trans hT, hdT, h3⟩
    · obtain ⟨n1, n2⟩ := nb b o e
      exact (sb2 b n1).trans (k1 b o n2)
    · exact funFrames_none (Heap.FunFrames.sameBut sb hm2 k3) fun L hL => gone L (k3.mem hL).1
  unfold PySem.passOn
  refine wpAny_bind (wpAny_field ((sb2 a aC).trans he) hdt hv1 ?_)
  rw [if_neg (show ¬ ((Value.ref T == Value.none) = true) by simp)]
  have fin : wpAny (model X.prog X.w) X.A (setFlight (.ref a) ce.frame) (fun _ s4 => wpAny (model X.prog X.w) X.A (throw (.ref a) : Sem Value) (fun _ _ => False) X.xe s4) X.xe { s' with heap := h2 } := by
    rw [hcf, hf]
    refine HandSPX.setFlight_onZ held fun h4 hh4 up4 => wpAny_throw (tk _ _ ?_)
    have I2 := I.turned (it := ce.locals) (h' := PySem.W.hideAll s.heap [ce.locals]) (t' := s.toks) (fun b o hb e => PySem.W.hideAll_get _ e (by simpa using hb)) fp.1 fp.2.1 fp.2.2.2.1 fp.2.2.2.2.1 fp.2.2.2.2.2
    have ns : ∀ b o, (PySem.W.hideAll s.heap [ce.locals]).get? b = some o → b ≠ ce.locals ∧ s.heap.get? b = some o := fun b o e => by
      refine ⟨fun z => ?_, PySem.W.of_hideAll _ e⟩
      rw [z, PySem.W.hideAll_none [ce.locals] List.mem_cons_self] at e
      cases e
    have put : ∀ b o, b ≠ ce.locals → B.get? b = some o → (PySem.W.hideAll B [ce.locals]).get? b = some o := fun b o hb e => PySem.W.hideAll_get _ e (by simpa using hb)
    have hC' : H' ce.locals = none := ub.free _ oC hC fp.1
    refine XE_of_ub I2 hh4.1 (fun b o q => (hok b o q).stay (fun c u hc r => put c u (fun z => ?_) r) (fun _ r => r) fun _ _ r => r)
      ⟨fun b o e n hb => put b o (ns b o e).1 (ub.keep b o (ns b o e).2 n hb), fun b o e hb => ?_, fun b o e n => ub.free b o (ns b o e).2 n, fun b o e hb => ?_, ub.tups, ub.frzs, ub.tbls⟩ (.inr (.inr (by rw [hst]; exact hh4))) na os ag (hW _ _ _ hE)
    · rcases hc with hc | hc
      · rw [z] at hc
        rw [← hc, hC'] at q
        cases q
      · rw [z, hC'] at hc
        cases hc
    · obtain ⟨n1, n2⟩ := ns b o e
      obtain ⟨_, o', e', hnf⟩ := I.stack.mem hb
      rw [n2] at e'
      cases e'
      obtain ⟨sl, q⟩ := ub.slot b o n2 hb
      obtain ⟨sl2, q2⟩ := up b _ q hnf
      obtain ⟨sl3, q3⟩ := up4 b _ ((sb2 b n1).trans q2) hnf
      exact ⟨sl3, q3⟩
    · obtain ⟨o', q⟩ := ub.there b o (ns b o e).2 hb
      exact ⟨o', put b o' (ns b o e).1 q⟩
  first
    | exact wpAny_bind (wpAny_pure (wpAny_bind fin))
    | exact wpAny_bind fin
end
/-- the context of a comprehension's block whose element may raise -/
abbrev blkX (X : Cx) (s : Shared) (H : Hp) (scope : Scope) (ce : Env) (fp : List Addr) (xe : Value → Shared → Prop) : Cx := (X.blk s H scope ce fp).wish xe
section
variable {X : Cx}
theorem lc_coreX {pins : List (Addr × Obj)} {s : Shared} {σ : L2.St} {H : Hp} {Q : VK} {elt tg iter : Expr} {scope : Scope} {own : List (Str × Nat)} {pos pos' : Pos} {wi : TI} {g : TG} {te : TE} {use : Option (Value → Sem Unit)} {Qf : Value → Shared → Prop} {W : WX} {E : XK}
    (hc : X.calm = true) (hN : X.N.Nodup) (hst : X.stack = X.env :: X.outer) (hf : X.env.frame = some X.env.locals) (tk : Takes X W) (hW : ∀ cls d H', E cls d H' → W cls d σ H')
    (I : Inv X pins σ H s) (hi : PI X tg iter wi) (ok : BlkOk X.N X.env.scope scope own) (hg : ∀ (s : Shared) (H : Hp) (C : Addr) (cl : List (Str × Addr)) (fp : List Addr), PG (X.blk s H scope (compEnvC scope cl C X.env) fp) tg g)
    (he : ∀ (s : Shared) (H : Hp) (C : Addr) (cl : List (Str × Addr)) (fp : List Addr) (xe : Value → Shared → Prop), (∀ pins' σ' H' s1 e s', Inv (blkX X s H scope (compEnvC scope cl C X.env) fp xe) pins' σ' H' s1 → L2.CX X.prog X.w X.stack H' s1 E e s' → xe e s') →
      PE (blkX X s H scope (compEnvC scope cl C X.env) fp xe) elt te)
    (hs : ∀ x, foldedSetIterable iter X.env x = pure x) (h : tLc wi g tYes te (own.map (·.2)) σ H Q)
    (hRR : ∀ D C s' m H' (ce : Env), ce.locals = C → Inv X pins σ H' s' → Q (.ref D) H' → s'.heap.Ns C m → FpOk X pins H' C → compEnds (model X.prog X.w) X.A X.xe use Qf (.ref D) ce (.ok .next) s') :
    wpAny (model X.prog X.w) X.A (comprehension (.ListComp elt [⟨tg, iter, [], 0⟩] scope pos) scope X.env pos' (newList []) false (eval iter X.env) use) Qf X.xe s := by
  have free_ok : ∀ y ∈ scope.names, y.2 = .free → ∃ c, X.env.cells.lookup y.1 = some c := by
    intro y hy e
    exact (ok.free y hy e).elim (fun k => I.ok.has _ (.inl k)) (fun k => I.ok.has _ (.inr k))
  refine comprehension_at (use := use) rfl hs (closure_ok free_ok) ok.kind (fun y hy e => (ok.uniq y hy).trans (congrArg some e)) ?_
  refine thn (hi.run pins s σ H _ I h) fun _ _ hx => thn hx fun _ s2 h2 => ?_
  obtain ⟨it, fp, tn, J, H2, rfl, I2, T, st2, f2, q⟩ := h2
  refine wpAny_newObj_type (newEnv_comp ?_) (Nat.zero_le _)
  generalize hL : s2.heap.objs.size = L
  have hLn : H2 L = none := I2.hok.fresh (Nat.le_of_eq hL)
  obtain ⟨Wv, ⟨m0, w0⟩, turn⟩ := q L hLn
  generalize e3 : ({ s2 with heap := s2.heap.push { cls := .type "list", data := .seq ([] : List Value).toArray } } : Shared) = s3
  have h3 : s3.heap = s2.heap.push { cls := .type "list", data := .seq ([] : List Value).toArray } := by rw [← e3]
  have kp3 : ∀ b o, s2.heap.get? b = some o → s3.heap.get? b = some o := fun b o e => by
    rw [h3]
    exact Heap.get?_push_of_some _ e
  have I3 : Inv X pins σ (upd H2 L (.lst [])) s3 := by
    rw [← e3]
    refine I2.laid (t' := s2.toks) (fun b o e => Heap.get?_push_of_some _ e) (Nat.le_of_eq hL) ⟨Nat.zero_le _, [], 0, .nil, ?_⟩
    rw [← hL]
    exact Heap.get?_push_size _ rfl
  have f3 : ∀ b ∈ fp, FpOk X pins (upd H2 L (.lst [])) b ∧ b < s3.heap.objs.size := by
    intro b hb
    obtain ⟨o, e, _⟩ := T.obj _ _ st2 b hb
    have hlt := Heap.lt_size e
    have hne : b ≠ L := by rw [← hL]; exact Nat.ne_of_lt hlt
    refine ⟨⟨(upd_ne hne).trans (f2 b hb).1, (f2 b hb).2⟩, ?_⟩
    rw [h3, Heap.size_push]
    exact Nat.lt_succ_of_lt hlt
  have st3 : tn 0 s3.heap := T.keep _ _ _ st2 fun b _ o e => kp3 b o e
  have I4 := block_start I3 ok hN f3
  generalize hcl : cellsFrom (s3.heap.objs.size + 1) scope.names (cloFrom X.env.cells scope.names []) = cl at I4
  have pg := hg s3 (upd H2 L (.lst [])) s3.heap.objs.size cl fp
  have peX := he s3 (upd H2 L (.lst [])) s3.heap.objs.size cl fp
  have nfp : ∀ b ∈ fp, (upd H2 L (.lst [])) b = none := fun b hb => (f3 b hb).1.1
  have hcf : (compEnvC scope cl s3.heap.objs.size X.env).frame = X.env.frame := rfl
  show codeAny _ _ (.compStart _ 0 (.ref it) (.ref L) (compEnvC scope cl s3.heap.objs.size X.env))
    (compEnds (model X.prog X.w) X.A X.xe use Qf (.ref L) (compEnvC scope cl s3.heap.objs.size X.env)) _
  generalize hce : compEnvC scope cl s3.heap.objs.size X.env = ce at I4 pg peX hcf ⊢
  have cL : ce.locals = s3.heap.objs.size := by rw [← hce]; rfl
  generalize hH3 : upd H2 L (.lst []) = H3 at I3 I4 pg peX w0 nfp f3
  generalize e4 : ({ s3 with heap := pushCells (s3.heap.push { cls := .type "dict", data := .dict #[] }) scope.names } : Shared) = s4 at I4
  have st4 : tn 0 s4.heap := T.keep _ _ _ st3 fun b _ o e => by
    rw [← e4]
    exact pushCells_keeps _ _ _ _ (Heap.get?_push_of_some _ e)
  -- what the block knows, told in the def's own context
  have chs : ∀ b ∈ fp, (b ∈ X.ex ∨ X.s_0.heap.objs.size ≤ b) ∧ b ≠ X.env.locals ∧ (∀ x c, X.env.cells.lookup x = some c → c ≠ b) ∧ ∀ p ∈ X.pn ++ pins, p.1 ≠ b := fun b hb => by
    obtain ⟨⟨_, z2, _, z4, z5, z6⟩, _⟩ := f3 b hb
    exact ⟨z4, z2, z5, z6⟩
  have back : ∀ {pins' : List (Addr × Obj)} {σ' : L2.St} {H' : Hp} {s' : Shared}, Inv (X.blk s3 H3 scope ce fp) pins' σ' H' s' → Inv X pins σ H' s' ∧ (∃ m, s'.heap.Ns ce.locals m) ∧ FpOk X pins H' ce.locals := by
    intro pins' σ' H' s' Ib
    obtain ⟨m, hm, _⟩ := Ib.loc
    have nC : H' ce.locals = none := Ib.free
    refine ⟨I3.call' (ch := fp) Ib.os Ib.base Ib.hok Ib.bare chs, ⟨m, hm⟩, ?_⟩
    rw [cL] at nC ⊢
    exact I3.fpOk (Nat.le_refl _) nC
  have pe := peX (fun e s' => ∃ Hc sc m, Inv X pins σ Hc sc ∧ sc.heap.Ns ce.locals m ∧ FpOk X pins Hc ce.locals ∧ L2.CX X.prog X.w X.stack Hc sc E e s') (fun pins' σ' H' s1 e s' Jx cx => by
    obtain ⟨b1, ⟨m, b2⟩, b3⟩ := back Jx.unwish
    exact ⟨H', s1, m, b1, b2, b3, cx⟩)
  have fpB : ∀ {σ' : L2.St} {H' : Hp} {s' : Shared}, Inv (X.blk s3 H3 scope ce fp) [] σ' H' s' → (∀ b ∈ fp, H' b = none) → ∀ b ∈ fp, FpOk (X.blk s3 H3 scope ce fp) [] H' b := by
    intro σ' H' s' Ib hn b hb
    obtain ⟨z1, z2⟩ := Ib.ok.exf b hb
    exact ⟨hn b hb, z1, Ib.ok.exfs b hb, .inl hb, z2, fun p hp => by cases hp⟩
  have loop : codeAny (model X.prog X.w) X.A (.compLoop (.ListComp elt [⟨tg, iter, [], 0⟩] scope pos) 0 (.ref it) (.ref L) ce) (compEnds (model X.prog X.w) X.A X.xe use Qf (.ref L) ce) s4 := by
    refine compLoop_any (fun n s' => ∃ i H', Inv (X.blk s3 H3 scope ce fp) [] (wipe σ (own.map (·.2))) H' s' ∧ tn i s'.heap ∧ (∀ b ∈ fp, H' b = none) ∧ Wv i n H') ?_ m0 ⟨0, H3, I4, st4, nfp, w0⟩
    intro n s5 hinv
    obtain ⟨i, H5, I5, st5, n5, w5⟩ := hinv
    rcases turn i n H5 w5 with ⟨stop, qq⟩ | ⟨go, Nx, hNx, step⟩
    · refine thnF (T.done (X.blk s3 H3 scope ce fp) rfl rfl rfl hc i [] s5 _ H5 (fun _ _ => False) I5 (fpB I5 n5) st5 stop) fun r s6 hr => ?_
      obtain ⟨rfl, I6⟩ := hr
      obtain ⟨b1, ⟨m, b2⟩, b3⟩ := back I6
      exact hRR L ce.locals s6 m H5 ce rfl b1 qq b2 b3
    · refine thnF (T.item (X.blk s3 H3 scope ce fp) rfl rfl rfl hc i [] s5 _ H5 (fun _ _ => False) I5 (fpB I5 n5) st5 go) fun r s6 hr => ?_
      obtain ⟨u, rfl, h6⟩ := hr
      refine thnF h6 fun _ s7 hy => ?_
      obtain ⟨x, H7, I7, r7, y7, st7, n7⟩ := hy
      have I7' := I7.pinned (fpB I7 n7) (T.obj _ _ st7)
      refine thnF (pg.run _ s7 _ H7 x u _ I7' r7 (step x H7 y7)) fun _ s8 h8 => ?_
      obtain ⟨σ8, H8, I8, hw8, q8⟩ := h8
      refine wpAny_tests_nil ?_
      have q9 : te σ8 H8 _ := q8
      rw [if_pos rfl]
      refine wpAny_mono (pe.run _ s8 σ8 H8 _ (I8.wish _) q9) (fun z s10 hz => ?_) (fun e s' hx => ?_)
      · obtain ⟨yv, H10, I10, r10, acc, hL10, hz10, nx⟩ := hz
        refine app_ok (X := X.blk s3 H3 scope ce fp) I10.unwish hL10 hz10 r10 fun s11 I11 => ?_
        obtain ⟨m', hm, w'⟩ := hNx _ nx
        have pin' : ∀ b ∈ fp, ∀ o, s7.heap.get? b = some o → s11.heap.get? b = some o ∧ upd H10 L (.lst (acc ++ [yv])) b = none := fun b hb o e => by
          have z := I11.pin (b, o) (List.mem_append_right _ (List.mem_append_right _ (mem_pinsAt hb e)))
          exact ⟨z.1, z.2.1⟩
        have hlen : (wipe σ (own.map (·.2))).length = σ8.length := (congrArg List.length hw8).symm.trans (wipe_length _ _)
        refine ⟨m', hm, i + 1, _, (I11.unpinned (pins := [])).weak hlen (fun j v e => ?_), T.keep _ _ _ st7 fun b hb o e => (pin' b hb o e).1, fun b hb => ?_, w'⟩
        · rw [← hw8] at e
          exact (wipe_some e).1
        · obtain ⟨o, e, _⟩ := T.obj _ _ st7 b hb
          exact (pin' b hb o e).2
      · obtain ⟨Hc, sc, m, c1, c2, c3, c4⟩ := hx
        exact comp_error hst hf tk hW rfl hcf c1 c2 c3 c4
  exact codeAny_compStart_list loop (T.self X.A 0 _ _ _ st4 loop)
/-- name = [f(..) for ..], f may raise -/
theorem ps_setLcX {i : Nat} {y : Str} {py : Pos} {elt tg iter : Expr} {scope : Scope} {own : List (Str × Nat)} {pos spos : Pos} {wi : TI} {g : TG} {te : TE} {E : XK} (hc : X.calm = true) (hN : X.N.Nodup) (hst : X.stack = X.env :: X.outer) (hf : X.env.frame = some X.env.locals) (tk : Takes X (fun cls d _ H => E cls d H))
    (hy : X.N[i]? = some y) (hyl : X.env.scope.names.lookup y = some .local) (hsw : swapsWith (.ListComp elt [⟨tg, iter, [], 0⟩] scope pos) (some (.Name y py)) spos.line X.env = pure true) (hi : PI X tg iter wi) (ok : BlkOk X.N X.env.scope scope own)
    (hg : ∀ (s : Shared) (H : Hp) (C : Addr) (cl : List (Str × Addr)) (fp : List Addr), PG (X.blk s H scope (compEnvC scope cl C X.env) fp) tg g)
    (he : ∀ (s : Shared) (H : Hp) (C : Addr) (cl : List (Str × Addr)) (fp : List Addr) (xe : Value → Shared → Prop), (∀ pins' σ' H' s1 e s', Inv (blkX X s H scope (compEnvC scope cl C X.env) fp xe) pins' σ' H' s1 → L2.CX X.prog X.w X.stack H' s1 E e s' → xe e s') →
      PE (blkX X s H scope (compEnvC scope cl C X.env) fp xe) elt te) (hs : ∀ x, foldedSetIterable iter X.env x = pure x := by intro _; rfl) :
    PS X (.Assign [.Name y py] (.ListComp elt [⟨tg, iter, [], 0⟩] scope pos) spos) (tAsg (tLc wi g tYes te (own.map (·.2))) (gName i)) := by
  refine ⟨fun pins s σ H D I h => ?_⟩
  rw [exec_Assign_Name_used _ _ _ _ hsw]
  refine wpAny_bind (wpAny_standAt (wpAny_bind ?_))
  have h' : tLc wi g tYes te (own.map (·.2)) σ H (fun x H1 => gName i x σ H1 D.nx) := h
  show wpAny _ X.A (do let _ ← comprehension _ scope X.env (firstIterPos [⟨tg, iter, [], 0⟩] pos) (newList []) false (eval iter X.env) (some (assign (.Name y py) X.env))) _ _ s
  refine wpAny_bind (thn (lc_coreX (Qf := fun _ s' => SP X pins D .next s') hc hN hst hf tk (fun _ _ _ z => z) I hi ok hg he hs h' fun L C s' m H' ce hcL I' q hn f => ?_) fun _ s' hq => wpAny_pure (wpAny_pure hq))
  subst hcL
  obtain ⟨f0, f1, f2, f3, f4, f5⟩ := f
  show wpAny _ _ (assign (.Name y py) X.env (.ref L)) _ _ _
  refine wpAny_assign_Name (store_ok2 (v := V.ref L) I' hN hy (.inl hyl) rfl (fun s2 I2 hsa => ?_) (.inr hyl))
  obtain ⟨a, sb, ha⟩ := hsa
  have haC : ce.locals ≠ a := by
    rcases ha with z | z
    · exact z ▸ f1
    · exact fun e => f4 y a z e.symm
  exact ⟨m, hn.sameBut sb haC, fun h3 sb3 => ⟨_, H', I2.turned (t' := s2.toks) (fun b o hb e => (sb3.2 b hb).trans e) f0 f1 f3 f4 f5, q⟩⟩
end
/-! ### at the data -/
section
variable {K : Fg} {δ : Dn} {tl : TE} {ta : TA} {α : Type} {enc : α → PyData} {xs : List α} {G : α → PyData} {j r : Nat} {S : Spec} {E' : XK} {C : Addr}
/-- [f(..) for x in xs]: the first that raises stands at i -/
theorem ex_lc (src : ED K tl δ (.list (xs.map enc))) (hz : xs.length < 100000) (i : Nat) (hi : i < xs.length) (as : α → List PyData) (ha : ∀ x ∈ xs, EA K ta (δ.set j (some (enc x))) (as x)) (hb : ∀ k x, k < i → xs[k]? = some x → S (as x) (.val (G x)))
    (hx : ∀ x, xs[i]? = some x → S (as x) (.exc C)) {M H : Hp} {σ : L2.St} (e : Ex M H) (rr : Re K M σ δ) (hE : ∀ M' H', Gr M H M' H' → E' (.ref C) none H') (Q : VK) : tLc (iList K tl) (gName j) tYes (tCall (SpD K S) [] E' ta) [j] σ H Q :=
  src M H σ e rr _ fun v M1 H1 g1 dv => by
    obtain ⟨p, vs, rfl, hp, hs⟩ := dv.lst_inv
    refine ⟨p, rfl, ⟨vs, SqL.of (g1.mh _ _ hp)⟩, fun D hD => ?_⟩
    have hl : vs.length = xs.length := by rw [hs.length, List.length_map]
    refine lc_list (xs := vs) (fun k H' => k ≤ i ∧ LcI K M1 H1 D (((xs.take k).filter fun _ => true).map G) H') ⟨Nat.zero_le _, lc_start g1.mh hD⟩ (fun k H' _ I => ?_) (fun k x H' hx' I => ?_) (fun H' I => ?_)
    · obtain ⟨_, _, M', acc, g, _⟩ := I
      exact SqL.of (g.mh _ _ (g.mm _ _ hp))
    · obtain ⟨hki, I⟩ := I
      have hk : k < xs.length := by omega
      have hxk : xs[k]? = some xs[k] := List.getElem?_eq_getElem hk
      have hm : xs[k] ∈ xs := List.getElem_mem hk
      have hvx : ∀ M', Gr M1 H1 M' H' → Dq K M' x (enc xs[k]) := fun M' g => by
        obtain ⟨d, h1, h2⟩ := hs.getV hx'
        rw [List.getElem?_map, hxk] at h1
        cases h1
        exact h2.mono g.mm
      refine ⟨wipe_set σ j (some x), ?_⟩
      by_cases c : k = i
      · obtain ⟨nD, M', acc, g, mD, hD', da⟩ := I
        subst c
        have r2 : Re K M' ((wipe σ [j]).set j (some x)) (δ.set j (some (enc xs[k]))) := re_blk ((rr.mono g1.mm).mono g.mm) (hvx M' g)
        show tCall (SpD K S) [] E' ta _ H' _
        refine ha _ hm M' H' _ g.mh r2 _ fun vs2 M2 H2 g2 dvs => ⟨M2, as xs[k], .exc C, g2.mh, by rw [List.append_nil]; exact dvs, hx _ hxk, fun M3 H3 g3 => ?_⟩
        exact hE M3 H3 (g1.trans (g.trans (g2.trans g3)))
      · exact lc_turn (enc := enc) (F := fun _ => true) (tt := tYes) (rr.mono g1.mm) I hxk hz hvx (fun _ _ _ e _ Q q => q _ _ (Gr.refl e)) (fun _ => ed_call (ha _ hm) (hb k _ (by omega) hxk)) fun H'' I' => ⟨by omega, I'⟩
    · obtain ⟨hki, _⟩ := I
      omega
theorem sd_lcX {M0 H0 : Hp} {ρ : List Sl} {E : DE} (src : ED K tl (ρ.map Sl.hide) (.list (xs.map enc))) (hz : xs.length < 100000) (i : Nat) (hi : i < xs.length) (as : α → List PyData) (ha : ∀ x ∈ xs, EA K ta ((ρ.map Sl.hide).set j (some (enc x))) (as x)) (hb : ∀ k x, k < i → xs[k]? = some x → S (as x) (.val (G x)))
    (hx : ∀ x, xs[i]? = some x → S (as x) (.exc C)) (hE : ∀ M' H', Gr M0 H0 M' H' → E' (.ref C) none H') : SD K M0 H0 (tAsg (tLc (iList K tl) (gName j) tYes (tCall (SpD K S) [] E' ta) [j]) (gName r)) ρ E := fun M H σ D rs o =>
  ex_lc (G := G) src hz i hi as ha hb hx rs.gr.mh rs.reH (fun M' H' g => hE M' H' (rs.gr.trans g)) _
end
end U

namespace U
open PySem PySem.Spec PyProof.Rows L2 TL
/-! ### set(xs), xs a list of ints -/
/-- a new set -/
abbrev newSet (w : World) : Obj := { cls := .type "set", dict := none, data := .set #[] 0 (.fresh 0 0 (!w.params.followText "set-order")) }
section
variable {P : Program} {w : World} {A : Around} {E : Value → Shared → Prop} {s : Shared}
theorem set_of_list {l : Addr} {items : Array Value} (ns : List Int) {Q : Value → Shared → Prop} (qh : A.handled = none) (pl : s.heap.IsList l items) (pi : IntsAre items.toList ns) (pb : ns.length + 1 < scanBound)
    (fin : ∀ (h' : Heap) (tk c : Nat), SetR w h' s.heap.objs.size (fun j => decide (j ∈ ns)) c → c ≤ ns.length → (∀ b o, s.heap.get? b = some o → h'.get? b = some o) → Q (.ref s.heap.objs.size) { s with heap := h', toks := tk }) :
    wpAny (model P w) A (call (.type "set") [Value.ref l]) Q E s := by
  have lsz : items.size = ns.length := by
    have q := IntsAre.length pi
    rw [Array.length_toList] at q
    exact q
  obtain ⟨c, tl, gMro⟩ := F.called_set.mro
  have gMade := F.called_set.made
  have gSub := F.called_set.sub
  refine wpAny_call (codeAny_of_tree (?_ : wpAny _ _ (callAny (.type "set") _) _ _ _))
  refine wpAny_pure (And.intro (Code.quiet_builtin _ (by decide +kernel)) (codeAny_builtin F.entry_type_call ?_))
  rw [Around.under_plain (weight_type_call_type "set" [Value.ref l] []) rfl]
  have gA := F.called_set.notType
  have gB := F.called_set.canCreate
  have gC := F.typeCall_set_1 (.ref l)
  repeat any_goals first | assumption | wp_step

  refine codeAny_mono (code_set_led1 (.ref l) (E := E) (Q₁ := fun obj s₁ => obj = .ref s.heap.objs.size ∧ s₁ = { s with heap := s.heap.push (newSet w) }) ⟨rfl, rfl⟩) fun r s₁ er1 => ?_
  cases r with
  | error e => exact er1
  | ok fl =>
    cases fl with
    | ret obj =>
      obtain ⟨rfl, rfl⟩ := er1
      have oS : (s.heap.push (newSet w)).get? s.heap.objs.size = some (newSet w) := Heap.get?_push_size _ rfl
      have oT : Shared.TypeIs { s with heap := s.heap.push (newSet w) } (.ref s.heap.objs.size) "set" := ⟨_, oS, rfl⟩
      have oL := F.called_set.init.lookup
      have oB := F.called_set.init.bind (.ref s.heap.objs.size)
      repeat any_goals first | assumption | wp_step

      refine codeAny_mono (codeAny_call_builtin (R := wants (fun rv s₂ => rv = .none ∧ ∃ h' tk c, s₂ = { s with heap := h', toks := tk } ∧ SetR w h' s.heap.objs.size (fun j => decide (j ∈ ns)) c ∧ c ≤ ns.length ∧
          (∀ b o, s.heap.get? b = some o → h'.get? b = some o)) E) F.called_set.init.plain F.entry_set_init (check_set_init_1 oT ?_)) fun r₂ s₂ er => ?_
      · obtain ⟨ol0, ob, obC, nn, obD⟩ := pl
        obtain ⟨kC, kD, kT, kS⟩ := ol0
        simp only at obC obD
        subst obC; subst obD
        have ob' : (s.heap.push (newSet w)).get? l = some { cls := .type "list", dict := kD, data := .seq items nn, slots := kS } := Heap.get?_push_of_some _ ob
        have iA := F.sub_list_set
        have iB := F.sub_list_frozenset
        have iC : (Value.type "list" == Value.type "dict") = false := by decide
        have pl1 : (s.heap.push (newSet w)).IsList l items := ⟨_, ob', rfl, nn, rfl⟩
        unfold Builtin.«set.__init__»
        unfold noKeywords Builtin.Frozenset.updateFrom
        generalize ePI : pyIter = itr
        wp_walk
        subst ePI

        refine wpAny_pyIter_list pl1 ?_
        refine wpAny_bind <| wpAny_runValue ?_
        have ltS : l < s.heap.objs.size := Heap.lt_size ob
        have qh3 : A.in1.in1.in1.handled = none := by simp [qh]
        have sz1 : (s.heap.push (newSet w)).objs.size = s.heap.objs.size + 1 := Heap.size_push ..
        have neI : l ≠ (s.heap.push (newSet w)).objs.size := by
          rw [Heap.size_push]; exact Nat.ne_of_lt (Nat.lt_succ_of_lt ltS)
        have nS : s.heap.objs.size ∉ [(s.heap.push (newSet w)).objs.size, l] := by
          rw [Heap.size_push]
          simp only [List.not_mem_nil, List.mem_cons, List.mem_singleton, or_false, not_or]
          exact ⟨Nat.ne_of_lt (Nat.lt_succ_self _), Nat.ne_of_gt ltS⟩
        have each : ∀ (i : Nat) (v : Value), items[i]? = some v → ∃ k t, ns[i]? = some k ∧ v = .int k t := fun i v hv => by
          have hi : i < ns.length := by rw [← lsz]; exact (Array.getElem?_eq_some_iff.mp hv).1
          obtain ⟨t, e⟩ := PyProof.Rows.IntsAre.int_at pi i v (by rw [Array.getElem?_toList]; exact hv)
          refine ⟨ns[i], t, List.getElem?_eq_getElem (h := hi), ?_⟩
          rw [e] <;> rw [List.getD_eq_getElem?_getD, List.getElem?_eq_getElem hi] <;> rfl
        refine set_update_ints ((Walks.list qh3 _ l neI items).toS) s.heap.objs.size
          nS ns lsz pb each (items.size - 0) 0 _ (by omega) (Nat.zero_le _)
          ⟨⟨_, Heap.get?_push_size _ rfl, rfl, rfl⟩, (pl1.push _)⟩ ?hS0 ?hR
        case hS0 =>
          have got : ((s.heap.push (newSet w)).push { cls := .type "list_iterator", data := .fields #[.ref l, .int 0 0] }).get? s.heap.objs.size
              = some (newSet w) := Heap.get?_push_of_some _ oS
          exact ⟨0, Nat.le_refl 0, setR_new_at got⟩
        case hR =>
          intro s' c' mv cB oS'
          obtain ⟨hp', g2, d', tk', os'⟩ := s'
          have z1 : g2 = s.gens := mv.gens
          have z2 : d' = s.drawn := mv.drawn
          have z3 : os' = s.os := mv.os
          subst z1; subst z2; subst z3
          show wpAny _ _ _ _ _ _
          refine wpAny_pure ?_
          show wpAny _ _ (ret .none) _ _ _
          rw [lsz] at cB
          refine wpAny_pure ⟨rfl, hp', tk', c', rfl, oS', cB, fun b o e => ?_⟩
          have b0 : b < s.heap.objs.size := Heap.lt_size e
          have b1 : b ≠ s.heap.objs.size := Nat.ne_of_lt b0
          have b2 : b ≠ (s.heap.push (newSet w)).objs.size := by
            rw [Heap.size_push]; exact Nat.ne_of_lt (Nat.lt_succ_of_lt b0)
          exact mv.heap b o (by simp only [List.mem_cons, List.mem_singleton, List.not_mem_nil, or_false, not_or]; exact ⟨b1, b2⟩) (Heap.get?_push_of_some _ (Heap.get?_push_of_some _ e))

      · cases r₂ with
        | error e => exact er
        | ok fl2 =>
          cases fl2 with
          | ret r =>
            obtain ⟨rfl, h', tk, c', rfl, oS', cB, kk⟩ := er
            repeat any_goals first | assumption | wp_step
            exact fin _ _ _ oS' cB kk
          | _ => exact er.elim
    | _ => exact er1.elim

end
section
variable {X : Cx}
/-- sorted(set(xs)), xs a list of ints -/
def tSrt (K : Fg) (ta : TE) : TE := fun σ H Q => ta σ H fun x H1 => ∃ (l : Addr) (ns : List Int), x = V.ref l ∧ SqL K H1 l (ns.map V.int) ∧ ns.length < 64 ∧
  ∀ (ms : List Int) (p : Addr), ms.Pairwise (· < ·) → (∀ k : Int, k ∈ ms ↔ k ∈ ns) → H1 p = none → Q (.ref p) (upd H1 p (.lst (ms.map V.int)))
theorem pe_sortedSet {K : Fg} {a : Expr} {ta : TE} {p p2 q pos : Pos} (hk : X.K = K) (hc : X.calm = true) (hg : Gl X "sorted") (hm : X.mg "sorted" = none) (hg2 : Gl X "set") (hm2 : X.mg "set" = none) (ha : PE X a ta)
    (na : starEach [a] X.env = (false, eval a X.env) :: starEach [] X.env := by rfl) : PE X (.Call (.Name "sorted" p) [.Call (.Name "set" p2) [a] [] q] [] pos) (tSrt K ta) := by
  subst hk
  refine ⟨fun pins s σ H Q I h => Call_ (ld_blt I hg hm PyProof.Rows.boot_sorted ?_)⟩
  refine PyProof.Rows.callWith_builtin1 (PyProof.Rows.args_cons ?_ rfl) rfl rfl
  refine Call_ (ld_blt I hg2 hm2 PyProof.Rows.boot_set ?_)
  refine PyProof.Rows.callWith_type1 (PyProof.Rows.args_cons (thn (ha.run pins s σ H _ I h) fun v s1 ⟨x, H1, I1, r1, q1⟩ => PyProof.Rows.args_nil ?_) na) na rfl
  obtain ⟨l, ns, rfl, hq, hl, q1⟩ := q1
  cases r1
  obtain ⟨its, rv, pl, hz⟩ := I1.list hq
  refine set_of_list ns (I1.ok.hd hc) pl.isList (by simpa using rv.ints) (by unfold scanBound; omega) fun h' tk c R hcn kp => PyProof.Rows.args_nil ?_
  have I2 : Inv X pins σ H1 { s1 with heap := h', toks := tk } := I1.kept kp
  refine sorted_set R (I1.ok.hd hc) (by omega) fun s' p out c' ms k g o hp hgt hi hs hmem hlen => ?_
  have hn : H1 p = none := I2.hok.fresh hp
  have kk : ∀ b o, s1.heap.get? b = some o → s'.heap.get? b = some o := fun b o e => k b o (kp b o e)
  have hp1 : s1.heap.objs.size ≤ p := Nat.le_trans (Nat.le_of_lt R.lt) hp
  have hsz : (ms.map V.int).length ≤ sizeLine := by rw [List.length_map, hlen, sizeLine_eq]; omega
  have J : Inv X pins σ (upd H1 p (.lst (ms.map V.int))) { s1 with heap := s'.heap, gens := s'.gens, drawn := s'.drawn, toks := s'.toks } :=
    I1.call (ch := []) (Un.laid kk hp1 hn) (I1.hok.laid kk hp1 ⟨hsz, out.toList, c', vals_of_ints hi, hgt⟩) (by rw [g]; exact I1.bare) (fun _ z => nomatch z)
  have e : s' = { s1 with heap := s'.heap, gens := s'.gens, drawn := s'.drawn, toks := s'.toks } := by
    cases s'
    cases s1
    cases o
    rfl
  rw [e]
  exact ⟨.ref p, _, J, rfl, q1 ms p hs (fun k => (hmem k).trans ⟨of_decide_eq_true, decide_eq_true⟩) hn⟩
theorem foldl_cps (l : List Nat) : ∀ (n : Nat) (acc : Array Nat), ((List.replicate n l.toArray).foldl (· ++ ·) acc).toList = acc.toList ++ (List.replicate n l).flatten
  | 0, acc => by simp
  | n + 1, acc => by
    rw [List.replicate_succ, List.foldl_cons, foldl_cps l n, List.replicate_succ, List.flatten_cons]
    simp
theorem len_flat (l : List Nat) : ∀ n, (List.replicate n l).flatten.length = l.length * n
  | 0 => rfl
  | n + 1 => by
    rw [List.replicate_succ, List.flatten_cons, List.length_append, len_flat l n, Nat.mul_succ]
    omega
/-- a text times an int above 1 -/
def rRepS : R2 := fun x y H Q => ∃ (a : Str) (k : Int), x = .str a ∧ y = .int k ∧ 1 < k ∧ k < 2000 ∧ a.length ≠ 0 ∧ a.length < 1000 ∧ Q (.str ⟨(List.replicate k.toNat a.cps).foldl (· ++ ·) #[]⟩) H
theorem op_rep_str : OpR X (binaryOp .Mult) rRepS := by
  intro pins s σ H x y v u Q I rx ry h
  obtain ⟨a, k, rfl, rfl, h1, h2, h3, h4, q⟩ := h
  obtain ⟨t, rfl⟩ := rx
  obtain ⟨t2, rfl⟩ := ry
  have hm : a.length * k.toNat ≤ 1000 * 2000 := Nat.mul_le_mul (by omega) (by omega)
  have hlen : Str.length ⟨(List.replicate k.toNat a.cps).foldl (· ++ ·) #[]⟩ = a.length * k.toNat := by
    show Array.size _ = _
    rw [← Array.length_toList, show a.cps = a.cps.toList.toArray from by simp, foldl_cps, List.length_append, len_flat]
    simp [Str.length]
  refine PySem.P.mul_str ?_ (fun _ _ => ?_) (fun _ _ => ?_) ?_
  · rw [decide_eq_false (by omega), decide_eq_false (by omega)] <;> rfl
  · have : (1000 : Int) ≤ (2 ^ 63 - 1) / k := (Int.le_ediv_iff_mul_le (by omega)).mpr (by omega)
    omega
  · show decide _ = false
    rw [decide_eq_false]
    intro z
    rw [sizeLine_eq] at z
    omega
  · rw [if_neg (by omega), if_neg]
    · exact ⟨by rw [hlen, sizeLine_eq]; omega, ⟨.str _, H, I.tok _, ⟨_, rfl⟩, q⟩⟩
    · simp only [Bool.or_eq_true, beq_iff_eq]
      omega
end
section
variable {K : Fg} {δ : Dn} {ta tb : TE}
theorem ris_uniq : ∀ {a b : List Int}, a.Pairwise (· < ·) → b.Pairwise (· < ·) → (∀ k : Int, k ∈ a ↔ k ∈ b) → a = b
  | [], [], _, _, _ => rfl
  | [], y :: b, _, _, h => by
    have := (h y).mpr (List.mem_cons_self ..)
    cases this
  | x :: a, [], _, _, h => by
    have := (h x).mp (List.mem_cons_self ..)
    cases this
  | x :: a, y :: b, ha, hb, h => by
    obtain ⟨ha1, ha2⟩ := List.pairwise_cons.mp ha
    obtain ⟨hb1, hb2⟩ := List.pairwise_cons.mp hb
    have hxy : x = y := by
      have h1 := (h x).mp (List.mem_cons_self ..)
      have h2 := (h y).mpr (List.mem_cons_self ..)
      rcases List.mem_cons.mp h1 with e | m1
      · exact e
      · rcases List.mem_cons.mp h2 with e | m2
        · exact e.symm
        · have := hb1 _ m1
          have := ha1 _ m2
          omega
    subst hxy
    rw [ris_uniq ha2 hb2 fun k => ?_]
    refine ⟨fun m => ?_, fun m => ?_⟩
    · rcases List.mem_cons.mp ((h k).mp (List.mem_cons_of_mem _ m)) with e | z
      · have := ha1 k m
        omega
      · exact z
    · rcases List.mem_cons.mp ((h k).mpr (List.mem_cons_of_mem _ m)) with e | z
      · have := hb1 k m
        omega
      · exact z
theorem ef_srt {ns ms : List Int} (h : ED K ta δ (.list (ns.map .int))) (hl : ns.length < 64) (h1 : ms.Pairwise (· < ·)) (h2 : ∀ k : Int, k ∈ ms ↔ k ∈ ns) : EF K (tSrt K ta) δ (ms.map .int) := fun M H σ e rr Q q =>
  h M H σ e rr _ fun v M1 H1 g1 dv => by
    obtain ⟨p, xs, rfl, hp, hs⟩ := dv.lst_inv
    refine ⟨p, ns, rfl, by rw [← hs.ints]; exact SqL.of (g1.mh _ _ hp), hl, fun ns' l h3 h4 hn => ?_⟩
    have := ris_uniq h3 h1 fun k => (h4 k).trans (h2 k).symm
    subst this
    exact q l _ M1 _ (g1.trans (Gr.hid g1.mh hn)) (Evl.fresh_back g1.hh hn) (ex_none g1.mh hn) upd_same DqA.of_ints
theorem ed_repS {l : List Nat} {k : Int} (ha : ED K ta δ (sD l)) (hb : ED K tb δ (.int k)) (hk : 1 < k ∧ k < 2000) (hl : l ≠ [] ∧ l.length < 1000) : ED K (tOp rRepS ta tb) δ (sD (List.replicate k.toNat l).flatten) := ed_op ha hb fun M H x y e dx dy Q q => by
  refine ⟨ofL l, k, dx.str_inv, dy.int_inv, hk.1, hk.2, by rw [ofL_len]; exact fun z => hl.1 (List.length_eq_zero_iff.mp z), by rw [ofL_len]; exact hl.2, ?_⟩
  have e2 : (⟨(List.replicate k.toNat (ofL l).cps).foldl (· ++ ·) #[]⟩ : Str) = ofL (List.replicate k.toNat l).flatten := by
    show Str.mk _ = Str.mk _
    congr 1
    apply Array.toList_inj.mp
    rw [foldl_cps]
    simp
  rw [e2]
  exact q _ M H (Gr.refl e) (.str _)
theorem rd_inD {a : PyData} {ds : List PyData} (h1 : SeqAt.shaped a = true) (h2 : SeqAt.shaped (.list ds) = true) : RD K (rInD K) a (.list ds) (.bool (ds.any fun z => PyData.eqv z a)) := fun M H x y e dx dy Q q =>
  ⟨a, ds, (dx.mono e).dp (SeqAt.canLay_of_shaped h1), (dy.mono e).dp (SeqAt.canLay_of_shaped h2), h1, h2, q _ M H (Gr.refl e) (.bl _)⟩
end
end U

namespace U
open PySem PySem.Spec PyProof.Rows L2 TL
/-- what lets nothing out passes anywhere -/
theorem passL {X : Cx} {P : Program} {w : World} : Passes (L2.CX P w) X fun _ _ _ => False := fun _ _ _ _ _ _ _ c => by
  obtain ⟨_, _, _, _, _, _, _, _, _, _, _, z⟩ := c
  exact z.2.elim
/-! ### a text cut at blanks -/
def wordsL (tx : List Nat) : List (List Nat) := (Txt.split (ofL tx) (ofL [32])).map tl
theorem spl_bound : ∀ (l acc : List Nat), (spl [32] 0 acc l).length ≤ l.length + 1 ∧ ∀ p ∈ spl [32] 0 acc l, p.length ≤ acc.length + l.length
  | [], acc => by
    rw [spl_nil]
    exact ⟨Nat.le_refl _, fun p hp => by rw [List.mem_singleton.mp hp]; exact Nat.le_refl _⟩
  | c :: r, acc => by
    cases h : pre [32] (c :: r) with
    | true =>
      rw [spl_hit h]
      obtain ⟨h1, h2⟩ := spl_bound r []
      refine ⟨Nat.succ_le_succ h1, fun p hp => ?_⟩
      rcases List.mem_cons.mp hp with rfl | z
      · omega
      · have := h2 p z
        simp only [List.length_cons, List.length_nil] at this ⊢
        omega
    | false =>
      rw [spl_miss h]
      obtain ⟨h1, h2⟩ := spl_bound r (acc ++ [c])
      refine ⟨Nat.le_succ_of_le h1, fun p hp => ?_⟩
      have := h2 p hp
      simp only [List.length_cons, List.length_append, List.length_nil] at this ⊢
      omega
theorem wordsL_spl (tx : List Nat) : wordsL tx = spl [32] 0 [] tx := by
  unfold wordsL
  rw [split_spl (ofL tx) (ofL [32]) (by rw [tl_mk]; exact List.cons_ne_nil _ _) ?_, tl_mk, tl_mk]
  have : Builtin.Str.strKind (ofL [32]) = 1 := by decide +kernel
  rw [this]
  unfold Builtin.Str.strKind
  split
  · omega
  · split <;> omega
theorem wordsL_bound (tx : List Nat) : (wordsL tx).length ≤ tx.length + 1 ∧ ∀ p ∈ wordsL tx, p.length ≤ tx.length := by
  rw [wordsL_spl]
  obtain ⟨h1, h2⟩ := spl_bound tx []
  exact ⟨h1, fun p hp => by have := h2 p hp; rw [List.length_nil] at this; omega⟩
theorem words_split (tx : List Nat) : (Txt.split (ofL tx) (ofL [32])).map PyData.str = (wordsL tx).map sD := by
  unfold wordsL
  rw [List.map_map]
  refine List.map_congr_left fun x _ => ?_
  show PyData.str x = PyData.str (ofL (tl x))
  rw [show ofL (tl x) = x from ext_tl (by rw [tl_mk])]
/-! ### a word read -/
theorem gateOf_eq {n : Int} {w : List Nat} (hall : (w.drop 1).all isFig = true) : gateOf n w = match (if w.take 1 = [116] ∧ (figs w).length > 0 then some (Gt.turn (at' (figs w) 0) ((figs w).drop 1)) else if w.take 1 = [115] ∧ (figs w).length = 2 then some (.swap (at' (figs w) 0) (at' (figs w) 1)) else none) with
      | some g => if vG n g = true then some g else none
      | none => none := by
  unfold gateOf wordG
  first
    | (rw [if_pos hall]; done)
    | (rw [if_pos hall]; rfl)
theorem figs_of (w : List Nat) : figs w = (w.drop 1).map fun c : Nat => (c : Int) - 48 := rfl
theorem gate_fits {n : Int} {w : List Nat} (hs : (gateOf n w).isSome = true) : ∀ c ∈ w.drop 1, isFig c = true ∧ (c : Int) - 48 < n := by
  intro c hc
  cases hal : (w.drop 1).all isFig with
  | false =>
    have : gateOf n w = none := by
      unfold gateOf wordG
      rw [hal]
      rfl
    rw [this] at hs
    cases hs
  | true =>
    refine ⟨List.all_eq_true.mp hal c hc, ?_⟩
    rw [gateOf_eq hal] at hs
    have hm : (c : Int) - 48 ∈ figs w := List.mem_map.mpr ⟨c, hc, rfl⟩
    generalize figs w = fs at hs hm
    generalize (c : Int) - 48 = x at hm
    by_cases h1 : w.take 1 = [116] ∧ fs.length > 0
    · rw [if_pos h1] at hs
      have hv : isTurnB n (at' fs 0) (fs.drop 1) = true := by
        cases hq : isTurnB n (at' fs 0) (fs.drop 1) with
        | true => rfl
        | false =>
          have hs2 : (if isTurnB n (at' fs 0) (fs.drop 1) = true then some (Gt.turn (at' fs 0) (fs.drop 1)) else none).isSome = true := hs
          rw [hq] at hs2
          cases hs2
      obtain ⟨hw, _, hi⟩ := isTurnB_iff.mp hv
      cases fs with
      | nil => cases hm
      | cons f ws =>
        rcases List.mem_cons.mp hm with rfl | z
        · exact hw.2
        · exact (incrB_mem hi x z).2
    · rw [if_neg h1] at hs
      by_cases h2 : w.take 1 = [115] ∧ fs.length = 2
      · rw [if_pos h2] at hs
        have hv : vG n (.swap (at' fs 0) (at' fs 1)) = true := by
          cases hq : vG n (.swap (at' fs 0) (at' fs 1)) with
          | true => rfl
          | false =>
            have hs2 : (if vG n (.swap (at' fs 0) (at' fs 1)) = true then some (Gt.swap (at' fs 0) (at' fs 1)) else none).isSome = true := hs
            rw [hq] at hs2
            cases hs2
        unfold vG at hv
        simp only [Bool.and_eq_true, decide_eq_true_eq] at hv
        match fs, h2.2 with
        | [a, b], _ =>
          have h3 : 0 ≤ a ∧ a < b ∧ b < n := hv
          rcases List.mem_cons.mp hm with rfl | z
          · omega
          · rw [List.mem_singleton.mp z]
            exact h3.2.2
      · rw [if_neg h2] at hs
        cases hs
theorem gate_unfit {n : Int} {w : List Nat} {c : Nat} (hc : c ∈ w.drop 1) (h : isFig c = false ∨ n ≤ (c : Int) - 48) : gateOf n w = none := by
  cases hg : gateOf n w with
  | none => rfl
  | some g =>
    have := gate_fits (n := n) (w := w) (by rw [hg]; rfl) c hc
    rcases h with h | h
    · rw [h] at this
      cases this.1
    · omega
theorem gate_swap {n : Int} {w : List Nat} (hall : (w.drop 1).all isFig = true) (ht : w.take 1 = [115]) (hb : ∀ x ∈ figs w, 0 ≤ x ∧ x < n) :
    gateOf n w = if (figs w).length = 2 ∧ at' (figs w) 0 < at' (figs w) 1 then some (.swap (at' (figs w) 0) (at' (figs w) 1)) else none := by
  rw [gateOf_eq hall]
  generalize figs w = fs at hb ⊢
  rw [if_neg (fun z => by rw [ht] at z; exact absurd z.1 (by decide))]
  by_cases h2 : fs.length = 2
  · rw [if_pos ⟨ht, h2⟩]
    have h0 := hb _ (at'_mem (l := fs) (i := 0) (by decide) (by omega))
    have h1 := hb _ (at'_mem (l := fs) (i := 1) (by decide) (by omega))
    show (if vG n (.swap (at' fs 0) (at' fs 1)) = true then some (Gt.swap (at' fs 0) (at' fs 1)) else none) = _
    by_cases c : at' fs 0 < at' fs 1
    · rw [if_pos (c := fs.length = 2 ∧ at' fs 0 < at' fs 1) ⟨h2, c⟩, if_pos]
      show (decide (0 ≤ at' fs 0) && (decide (at' fs 0 < at' fs 1) && decide (at' fs 1 < n))) = true
      rw [decide_eq_true h0.1, decide_eq_true c, decide_eq_true h1.2]
      rfl
    · rw [if_neg (c := fs.length = 2 ∧ at' fs 0 < at' fs 1) (fun z => c z.2), if_neg]
      show ¬ (decide (0 ≤ at' fs 0) && (decide (at' fs 0 < at' fs 1) && decide (at' fs 1 < n))) = true
      rw [decide_eq_false c, Bool.false_and, Bool.and_false]
      exact Bool.false_ne_true
  · rw [if_neg (fun z => h2 z.2), if_neg (fun z => h2 z.1)]
theorem gate_other {n : Int} {w : List Nat} (hs : w.take 1 ≠ [115]) (h : w.take 1 ≠ [116] ∨ figs w = []) : gateOf n w = none := by
  cases hal : (w.drop 1).all isFig with
  | false =>
    unfold gateOf wordG
    rw [hal]
    rfl
  | true =>
    rw [gateOf_eq hal, if_neg (fun z => ?_), if_neg fun z => hs z.1]
    rcases h with h | h
    · exact h z.1
    · rw [h] at z
      exact absurd z.2 (by decide)
/-- the checks of the law at a turn's figures -/
def turnAt (fs : List Int) (k : Int) : Prop := at' fs k ≠ at' fs 0 ∧ (1 < k → at' fs (k - 1) < at' fs k)
theorem turn_iff {n f : Int} {ws : List Int} (hf : 0 ≤ f ∧ f < n) (hb : ∀ x ∈ ws, 0 ≤ x ∧ x < n) : isTurnB n f ws = true ↔ ∀ k : Nat, 1 ≤ k → k < (f :: ws).length → turnAt (f :: ws) k := by
  have hat : ∀ j : Nat, (h : j < ws.length) → at' (f :: ws) ((j + 1 : Nat) : Int) = ws[j] := fun j h => by
    rw [at'_toNat (by rw [List.length_cons]; omega), List.getElem_cons_succ]
  rw [isTurnB_iff]
  constructor
  · rintro ⟨_, hn, hi⟩ k h1 hk
    obtain ⟨j, rfl⟩ : ∃ j, k = j + 1 := ⟨k - 1, by omega⟩
    have hj : j < ws.length := by rw [List.length_cons] at hk; omega
    refine ⟨fun e => ?_, fun h => ?_⟩
    · rw [hat j hj] at e
      have e2 : ws[j] = f := e
      exact hn (e2 ▸ List.getElem_mem hj)
    · obtain ⟨i, rfl⟩ : ∃ i, j = i + 1 := ⟨j - 1, by omega⟩
      rw [show (((i + 1 + 1 : Nat) : Int) - 1) = ((i + 1 : Nat) : Int) by omega, hat i (by omega), hat (i + 1) hj]
      exact List.pairwise_iff_getElem.mp (incrB_sorted hi) i (i + 1) (by omega) hj (by omega)
  · intro h
    refine ⟨hf, fun hm => ?_, incr_of ?_ fun x hx => ?_⟩
    · obtain ⟨j, hj, e⟩ := List.getElem_of_mem hm
      have := (h (j + 1) (by omega) (by rw [List.length_cons]; omega)).1
      rw [hat j hj] at this
      exact this e
    · have adj : ∀ j, (h2 : j + 1 < ws.length) → ws[j] < ws[j + 1] := fun j h2 => by
        have := (h (j + 1 + 1) (by omega) (by rw [List.length_cons]; omega)).2 (by omega)
        rw [show (((j + 1 + 1 : Nat) : Int) - 1) = ((j + 1 : Nat) : Int) by omega, hat j (by omega), hat (j + 1) h2] at this
        exact this
      rw [List.pairwise_iff_getElem]
      intro i j hi hj hij
      obtain ⟨d, rfl⟩ : ∃ d, j = i + d + 1 := ⟨j - i - 1, by omega⟩
      induction d with
      | zero => exact adj i hj
      | succ d ih =>
        have := ih (by omega) (by omega)
        have := adj (i + d + 1) hj
        exact Int.lt_trans (ih (by omega) (by omega)) this
    · have := hb x hx
      exact ⟨by omega, this.2⟩
theorem gate_turn {n : Int} {w : List Nat} (hall : (w.drop 1).all isFig = true) (ht : w.take 1 = [116]) (hne : figs w ≠ []) (hb : ∀ x ∈ figs w, 0 ≤ x ∧ x < n) :
    (∀ k : Nat, 1 ≤ k → k < (figs w).length → turnAt (figs w) k) → gateOf n w = some (.turn (at' (figs w) 0) ((figs w).drop 1)) := by
  rw [gateOf_eq hall]
  generalize figs w = fs at hb hne ⊢
  intro h
  cases fs with
  | nil => exact absurd rfl hne
  | cons f ws =>
    rw [if_pos ⟨ht, Nat.succ_pos _⟩]
    have hv := (turn_iff (hb f (List.mem_cons_self ..)) (fun x hx => hb x (List.mem_cons_of_mem _ hx))).mpr h
    show (if isTurnB n f ws = true then some (Gt.turn f ws) else none) = _
    rw [if_pos hv]
    rfl
theorem gate_noturn {n : Int} {w : List Nat} (hall : (w.drop 1).all isFig = true) (ht : w.take 1 = [116]) (hb : ∀ x ∈ figs w, 0 ≤ x ∧ x < n) {k : Nat} (h1 : 1 ≤ k) (h2 : k < (figs w).length) (hk : ¬ turnAt (figs w) k) : gateOf n w = none := by
  rw [gateOf_eq hall]
  generalize figs w = fs at hb h2 hk ⊢
  cases fs with
  | nil => exact absurd h2 (Nat.not_lt_zero _)
  | cons f ws =>
    rw [if_pos ⟨ht, Nat.succ_pos _⟩]
    show (if isTurnB n f ws = true then some (Gt.turn f ws) else none) = _
    rw [if_neg]
    intro hv
    exact hk ((turn_iff (hb f (List.mem_cons_self ..)) (fun x hx => hb x (List.mem_cons_of_mem _ hx))).mp hv k h1 h2)
/-! ### what read answers -/
def okB (n : Int) (tx : List Nat) : Bool := (wordsL tx).all (fun w => (gateOf n w).isSome) && decide ((wordsL tx).length ≤ 1000)
def rowD (n : Int) (tx : List Nat) : List PyData := if tx = [] then [] else (wordsL tx).map fun w => encO (gateOf n w)
def S_gate_ofX (K : Fg) : Spec := fun ds r => ∃ n w, ds = [.int n, sD w] ∧ WOk n ∧ w.length ≤ 90000 ∧ r = match gateOf n w with
  | some g => .val (encG g)
  | none => .exc (He.ga K "NoNote")
def readR (K : Fg) (n : Int) (tx : List Nat) : Ret := if ¬ WOk n then .exc (He.ga K "NoWires") else if tx = [] ∨ okB n tx = true then .new (rowD n tx) else .exc (He.ga K "NoNote")
def S_readX (K : Fg) : Spec := fun ds r => ∃ n tx, ds = [.int n, sD tx] ∧ tx.length ≤ 90000 ∧ r = readR K n tx
def S_law_gate : Spec := fun ds r => ∃ n w, ds = [.int n, sD w] ∧ WOk n ∧ w.length ≤ 90000 ∧ r = .val (encO (gateOf n w))
def S_law_read : Spec := fun ds r => ∃ n tx, ds = [.int n, sD tx] ∧ WOk n ∧ tx.length ≤ 90000 ∧ r = if tx = [] ∨ okB n tx = true then .new (rowD n tx) else .val .none
def S_law_toldT : Spec := fun ds r => ∃ n tx, ds = [.int n, sD tx] ∧ tx.length ≤ 90000 ∧ r = if ¬ WOk n then .val (.str "wires") else if tx = [] ∨ okB n tx = true then .new (rowD n tx) else .val (.str "note")
/-! ### the law's own words -/
def insR (x : Int) : List Int → List Int
  | [] => [x]
  | y :: l => if x < y then x :: y :: l else if x = y then y :: l else y :: insR x l
def srt (l : List Int) : List Int := l.foldr insR []
theorem mem_insR {x z : Int} : ∀ {l : List Int}, z ∈ insR x l ↔ z = x ∨ z ∈ l
  | [] => by simp [insR]
  | y :: l => by
    unfold insR
    split
    · simp
    · split
      · rename_i e
        subst e
        simp
      · rw [List.mem_cons, mem_insR, List.mem_cons]
        constructor
        · rintro (h | h | h)
          · exact .inr (.inl h)
          · exact .inl h
          · exact .inr (.inr h)
        · rintro (h | h | h)
          · exact .inr (.inl h)
          · exact .inl h
          · exact .inr (.inr h)
theorem insR_ris {x : Int} : ∀ {l : List Int}, l.Pairwise (· < ·) → (insR x l).Pairwise (· < ·)
  | [], _ => by simp [insR]
  | y :: l, h => by
    obtain ⟨h1, h2⟩ := List.pairwise_cons.mp h
    unfold insR
    split
    · rename_i c
      refine List.pairwise_cons.mpr ⟨fun z hz => ?_, h⟩
      rcases List.mem_cons.mp hz with rfl | hz
      · exact c
      · exact Int.lt_trans c (h1 z hz)
    · split
      · exact h
      · rename_i c1 c2
        refine List.pairwise_cons.mpr ⟨fun z hz => ?_, insR_ris h2⟩
        rcases mem_insR.mp hz with rfl | hz
        · omega
        · exact h1 z hz
theorem mem_srt {z : Int} : ∀ {l : List Int}, z ∈ srt l ↔ z ∈ l
  | [] => by simp [srt]
  | y :: l => by
    show z ∈ insR y (srt l) ↔ _
    rw [mem_insR, mem_srt, List.mem_cons]
theorem srt_ris : ∀ {l : List Int}, (srt l).Pairwise (· < ·)
  | [] => .nil
  | y :: l => insR_ris (srt_ris (l := l))
theorem insR_len {x : Int} : ∀ {l : List Int}, (insR x l).length ≤ l.length + 1
  | [] => Nat.le_refl _
  | y :: l => by
    unfold insR
    split
    · exact Nat.le_refl _
    · split
      · exact Nat.le_succ _
      · exact Nat.succ_le_succ insR_len
theorem srt_len : ∀ {l : List Int}, (srt l).length ≤ l.length
  | [] => Nat.le_refl _
  | y :: l => Nat.le_trans insR_len (Nat.succ_le_succ srt_len)
def figs1 (c n : Int) : List Int := (irg 0 (1 + c % 4)).map fun j => drawv c j n
def figs2 (c n : Int) : List Int := if 0 < c / 4 % 4 then at' (figs1 c n) 0 :: srt ((figs1 c n).filter fun x => !decide (x = at' (figs1 c n) 0)) else figs1 c n
def headW (k : Int) : List Nat := [[116], [116], [115], [116], []].getD k.toNat []
def wordBy (c n : Int) : List Nat := if c / 16 % 4 = 1 then 115 :: (srt [at' (figs2 c n) 0, c / 64 % n]).map dg else headW (c / 64 % 5) ++ (figs2 c n).map dg
def S_law_word_by : Spec := fun ds r => ∃ ns k n, ds = [scrD ns, .int k, .int n] ∧ 0 ≤ k ∧ WOk n ∧ r = .val (sD (wordBy (cellv ns (1 + k)) n))
theorem figs1_len (c n : Int) : (figs1 c n).length = (1 + c % 4).toNat := by
  unfold figs1
  rw [List.length_map, irg_length]
  simp
theorem figs1_rng {c n : Int} (hn : 0 < n) : ∀ x ∈ figs1 c n, 0 ≤ x ∧ x < n := fun x hx => by
  obtain ⟨j, _, rfl⟩ := List.mem_map.mp hx
  exact drawv_lt c j hn
theorem figs2_rng {c n : Int} (hn : 0 < n) : ∀ x ∈ figs2 c n, 0 ≤ x ∧ x < n := fun x hx => by
  have h4 := Int.emod_nonneg c (show (4 : Int) ≠ 0 by decide)
  unfold figs2 at hx
  split at hx
  · rcases List.mem_cons.mp hx with rfl | z
    · exact figs1_rng hn _ (at'_mem (by decide) (by rw [figs1_len]; omega))
    · exact figs1_rng hn _ (List.mem_filter.mp (mem_srt.mp z)).1
  · exact figs1_rng hn x hx
theorem figs2_len (c n : Int) : 1 ≤ (figs2 c n).length ∧ (figs2 c n).length ≤ 5 := by
  have h4 := Int.emod_nonneg c (show (4 : Int) ≠ 0 by decide)
  have h5 := Int.emod_lt_of_pos c (show (0 : Int) < 4 by decide)
  have hl := figs1_len c n
  unfold figs2
  split
  · have := srt_len (l := (figs1 c n).filter fun x => !decide (x = at' (figs1 c n) 0))
    have := List.length_filter_le (fun x => !decide (x = at' (figs1 c n) 0)) (figs1 c n)
    rw [List.length_cons]
    omega
  · omega
theorem headW_len (k : Int) : (headW k).length ≤ 1 := by
  unfold headW
  generalize k.toNat = j
  match j with
  | 0 | 1 | 2 | 3 | 4 => decide
  | n + 5 => simp
theorem wordBy_len (c n : Int) : (wordBy c n).length ≤ 6 := by
  unfold wordBy
  split
  · rw [List.length_cons, List.length_map]
    have := srt_len (l := [at' (figs2 c n) 0, c / 64 % n])
    simp only [List.length_cons, List.length_nil] at this
    omega
  · rw [List.length_append, List.length_map]
    have := headW_len (c / 64 % 5)
    have := (figs2_len c n).2
    omega
end U

namespace U
open PySem PySem.Spec PyProof.Rows L2 TL
/-! ### s.find(t) -/
theorem ed_find {K : Fg} {δ : Dn} {to te : TE} {x y : Str} {i : Int} (ho : ED K to δ (.str x)) (he : ED K te δ (.str y)) (h : Txt.find x y = i) : ED K (tM1 (fun x xs H Q => ∃ a b, x = .str a ∧ xs = [.str b] ∧ Q (.int (Txt.find a b)) H) to te) δ (.int i) := fun M H σ e rr Q q =>
  ho M H σ e rr _ fun v M1 H1 g1 dv => ⟨⟨_, dv.str_inv⟩, he M1 H1 σ g1.mh (rr.mono g1.mm) _ fun w M2 H2 g2 dw =>
    ⟨x, y, dv.str_inv, by rw [dw.str_inv], by rw [h]; exact q _ M2 H2 (g1.trans g2) (.int i)⟩⟩
theorem find_fig (c : Nat) : Txt.find (ofL [48, 49, 50, 51]) (ofL [c]) = if isFig c = true then (c : Int) - 48 else -1 := by
  unfold isFig
  by_cases h : c ∈ [48, 49, 50, 51]
  · rw [if_pos (decide_eq_true h)]
    simp only [List.mem_cons, List.not_mem_nil, or_false] at h
    rcases h with rfl | rfl | rfl | rfl <;> decide +kernel
  · rw [if_neg (fun z => h (of_decide_eq_true z))]
    have e := PySem.StrLaws.found_one (ofL [48, 49, 50, 51]) c
    rw [decide_eq_false (show ¬ c ∈ (ofL [48, 49, 50, 51]).cps.toList from h)] at e
    unfold Txt.find
    have e2 : Builtin.Str.occurrences (ofL [48, 49, 50, 51]) (ofL [c]) 0 (ofL [48, 49, 50, 51]).length 1 = [] := by
      cases hq : Builtin.Str.occurrences (ofL [48, 49, 50, 51]) (ofL [c]) 0 (ofL [48, 49, 50, 51]).length 1 with
      | nil => rfl
      | cons i l =>
        have e3 : (!(Builtin.Str.occurrences (ofL [48, 49, 50, 51]) (ofL [c]) 0 (ofL [48, 49, 50, 51]).length 1).isEmpty) = false := e
        rw [hq] at e3
        cases e3
    rw [e2]
theorem first_bad {α : Type} {p : α → Bool} : ∀ {l : List α}, l.all p = false → ∃ i, i < l.length ∧ (∀ x, l[i]? = some x → p x = false) ∧ ∀ k x, k < i → l[k]? = some x → p x = true
  | [], h => by cases h
  | y :: l, h => by
    by_cases c : p y = true
    · rw [List.all_cons, c, Bool.true_and] at h
      obtain ⟨i, h1, h2, h3⟩ := first_bad h
      refine ⟨i + 1, Nat.succ_lt_succ h1, fun x hx => h2 x (by rwa [List.getElem?_cons_succ] at hx), fun k x hk hx => ?_⟩
      cases k with
      | zero =>
        rw [List.getElem?_cons_zero] at hx
        rw [← Option.some.inj hx]
        exact c
      | succ k =>
        rw [List.getElem?_cons_succ] at hx
        exact h3 k x (by omega) hx
    · refine ⟨0, Nat.succ_pos _, fun x hx => ?_, fun k x hk => absurd hk (Nat.not_lt_zero _)⟩
      rw [List.getElem?_cons_zero] at hx
      rw [← Option.some.inj hx]
      exact Bool.eq_false_iff.mpr c
theorem gateX_some {K : Fg} {n : Int} {w : List Nat} (hn : WOk n) (hl : w.length ≤ 90000) (h : (gateOf n w).isSome = true) : S_gate_ofX K [.int n, sD w] (.val (encO (gateOf n w))) := by
  refine ⟨n, w, rfl, hn, hl, ?_⟩
  cases hg : gateOf n w with
  | none => rw [hg] at h; cases h
  | some g => rfl
theorem gateX_none {K : Fg} {n : Int} {w : List Nat} (hn : WOk n) (hl : w.length ≤ 90000) (h : (gateOf n w).isSome = false) : S_gate_ofX K [.int n, sD w] (.exc (He.ga K "NoNote")) := by
  refine ⟨n, w, rfl, hn, hl, ?_⟩
  cases hg : gateOf n w with
  | none => rfl
  | some g => rw [hg] at h; cases h
/-- None in the row read -/
theorem none_in {n : Int} : ∀ ws : List (List Nat), ((ws.map fun w => encO (gateOf n w)).any fun z => PyData.eqv z .none) = !ws.all fun w => (gateOf n w).isSome
  | [] => rfl
  | w :: ws => by
    rw [List.map_cons, List.any_cons, none_in ws, List.all_cons]
    cases hg : gateOf n w with
    | none => rfl
    | some g => cases g <;> rfl
theorem shp_encO (o : Option Gt) : shp 2 (encO o) := by
  cases o with
  | none => exact ⟨by simp [encO, PyData.canLay0], by simp [encO, PyData.depth]⟩
  | some g => exact shp_encG g
theorem shp_rowD {n : Int} (ws : List (List Nat)) : shp 3 (.list (ws.map fun w => encO (gateOf n w))) := shp_list fun d hd => by
  obtain ⟨w, _, rfl⟩ := List.mem_map.mp hd
  exact shp_encO _
theorem fz_encO (o : Option Gt) : fz (encO o) = true := by
  cases o with
  | none => rfl
  | some g => exact fz_encG g
end U

namespace U
open PySem PySem.Spec PyProof.Rows L2 TL
theorem units65 {k : Nat} {A : Around} (r : Room k A) : A.units + 65 < cLine := by have := r.un; omega
theorem fig_lo {c : Nat} (h : isFig c = true) : 48 ≤ c := by
  have h1 := of_decide_eq_true (p := c ∈ [48, 49, 50, 51]) h
  simp only [List.mem_cons, List.not_mem_nil, or_false] at h1
  omega
theorem jsum (gs : List Int) : ((gs.map fun x => [dg x]).map (·.length)).sum ≤ gs.length := by
  rw [List.map_map]
  have := sum_le 1 (gs.map ((fun p : List Nat => p.length) ∘ fun x => [dg x])) fun p hp => by
    obtain ⟨x, _, rfl⟩ := List.mem_map.mp hp
    exact Nat.le_refl 1
  rw [List.length_map] at this
  omega
abbrev headD : List PyData := [sD [116], sD [116], sD [115], sD [116], sD []]
theorem head_at {k : Int} (h : 0 ≤ k ∧ k < 5) : L2.atI headD k = some (sD (headW k)) := by
  have : k = 0 ∨ k = 1 ∨ k = 2 ∨ k = 3 ∨ k = 4 := by omega
  rcases this with rfl | rfl | rfl | rfl | rfl <;> rfl
abbrev someD : List PyData := [sD [115], sD [116], sD [84], sD [48], sD [49], sD [50], sD [51], sD [52], sD [32], sD [45], sD [43], sD [95], sD [9], sD [10], sD [97], sD [57]]
theorem some_at {k : Int} (h : 0 ≤ k ∧ k < 16) : ∃ c : Nat, L2.atI someD k = some (sD [c]) := by
  have : k = 0 ∨ k = 1 ∨ k = 2 ∨ k = 3 ∨ k = 4 ∨ k = 5 ∨ k = 6 ∨ k = 7 ∨ k = 8 ∨ k = 9 ∨ k = 10 ∨ k = 11 ∨ k = 12 ∨ k = 13 ∨ k = 14 ∨ k = 15 := by omega
  rcases this with rfl | rfl | rfl | rfl | rfl | rfl | rfl | rfl | rfl | rfl | rfl | rfl | rfl | rfl | rfl | rfl <;> exact ⟨_, rfl⟩
theorem cutL_len (l : List Nat) (lo hi : Option Int) : (cutL l lo hi).length ≤ l.length := by
  unfold cutL
  rw [List.length_take, List.length_drop]
  omega
theorem far_at {far k : Int} (hf : 0 ≤ far) (h : 0 ≤ k ∧ k < 4) : ∃ x, L2.atI [PyData.int 0, .int 5, .int (0 - far), .int (5 + far)] k = some (.int x) ∧ ¬ WOk x := by
  have : k = 0 ∨ k = 1 ∨ k = 2 ∨ k = 3 := by omega
  rcases this with rfl | rfl | rfl | rfl
  · exact ⟨0, rfl, by decide⟩
  · exact ⟨5, rfl, by decide⟩
  · exact ⟨0 - far, rfl, fun z => by have := z.1; omega⟩
  · exact ⟨5 + far, rfl, fun z => by have := z.2; omega⟩
theorem shp_rowN {n : Int} {tx : List Nat} : shp 3 (.list (rowD n tx)) := by
  unfold rowD
  split
  · exact shp_list fun d hd => by cases hd
  · exact shp_rowD _
theorem eq_note : PyData.eqv (.str "note") (.str "note") = true := by
  rw [PyData.eqv]
  simp
theorem eq_wires : PyData.eqv (.str "wires") (.str "wires") = true := by
  rw [PyData.eqv]
  simp
end U

namespace K12
open PySem PySem.Spec PyProof.Rows L2 U
def top (i : Nat) : Stmt := PySem.Challenge.pw_undogates_k12_read_or_refused.main.body.getD i (.Pass ⟨0, 0, 0, 0⟩)
abbrev sasked_wires : Stmt := top 11
abbrev nmasked_wires : List Str := ["wires"]
theorem scasked_wires : FnScope nmasked_wires ["wires"] (defScope sasked_wires) := ⟨rfl, rfl, rfl, by decide +kernel, rfl, by decide +kernel, by decide +kernel⟩
abbrev sis_turn : Stmt := top 12
abbrev nmis_turn : List Str := ["wires", "wire", "watched", "before", "other"]
theorem scis_turn : FnScope nmis_turn ["wires", "wire", "watched"] (defScope sis_turn) := ⟨rfl, rfl, rfl, by decide +kernel, rfl, by decide +kernel, by decide +kernel⟩
abbrev sis_gate : Stmt := top 13
abbrev nmis_gate : List Str := ["wires", "gate"]
theorem scis_gate : FnScope nmis_gate ["wires", "gate"] (defScope sis_gate) := ⟨rfl, rfl, rfl, by decide +kernel, rfl, by decide +kernel, by decide +kernel⟩
abbrev sgate_of : Stmt := top 16
abbrev nmgate_of : List Str := ["wires", "word", "figures", "sign", "gate"]
theorem scgate_of : FnScope nmgate_of ["wires", "word"] (defScope sgate_of) := ⟨rfl, rfl, rfl, by decide +kernel, rfl, by decide +kernel, by decide +kernel⟩
abbrev sread : Stmt := top 17
abbrev nmread : List Str := ["wires", "text", "row", "word"]
theorem scread : FnScope nmread ["wires", "text"] (defScope sread) := ⟨rfl, rfl, rfl, by decide +kernel, rfl, by decide +kernel, by decide +kernel⟩
abbrev s_law_cell_at : Stmt := top 19
abbrev nm_law_cell_at : List Str := ["script", "k"]
theorem sc_law_cell_at : FnScope nm_law_cell_at ["script", "k"] (defScope s_law_cell_at) := ⟨rfl, rfl, rfl, by decide +kernel, rfl, by decide +kernel, by decide +kernel⟩
abbrev s_law_draw : Stmt := top 20
abbrev nm_law_draw : List Str := ["cell", "k", "bound", "stir"]
theorem sc_law_draw : FnScope nm_law_draw ["cell", "k", "bound"] (defScope s_law_draw) := ⟨rfl, rfl, rfl, by decide +kernel, rfl, by decide +kernel, by decide +kernel⟩
abbrev s_law_word_of : Stmt := top 21
abbrev nm_law_word_of : List Str := ["e", "kinds"]
theorem sc_law_word_of : FnScope nm_law_word_of ["e"] (defScope s_law_word_of) := ⟨rfl, rfl, rfl, by decide +kernel, rfl, by decide +kernel, by decide +kernel⟩
abbrev s_law_gate : Stmt := top 22
abbrev nm_law_gate : List Str := ["wires", "word", "figures", "sign", "k"]
theorem sc_law_gate : FnScope nm_law_gate ["wires", "word"] (defScope s_law_gate) := ⟨rfl, rfl, rfl, by decide +kernel, rfl, by decide +kernel, by decide +kernel⟩
abbrev s_law_read : Stmt := top 23
abbrev nm_law_read : List Str := ["wires", "text", "row", "word"]
theorem sc_law_read : FnScope nm_law_read ["wires", "text"] (defScope s_law_read) := ⟨rfl, rfl, rfl, by decide +kernel, rfl, by decide +kernel, by decide +kernel⟩
abbrev s_law_word_by : Stmt := top 24
abbrev nm_law_word_by : List Str := ["script", "k", "wires", "cell", "figures", "j", "one"]
theorem sc_law_word_by : FnScope nm_law_word_by ["script", "k", "wires"] (defScope s_law_word_by) := ⟨rfl, rfl, rfl, by decide +kernel, rfl, by decide +kernel, by decide +kernel⟩
abbrev s_law_told : Stmt := top 25
abbrev nm_law_told : List Str := ["wires", "text", "e"]
theorem sc_law_told : FnScope nm_law_told ["wires", "text"] (defScope s_law_told) := ⟨rfl, rfl, rfl, by decide +kernel, rfl, by decide +kernel, by decide +kernel⟩
abbrev slaw : Stmt := top 26
abbrev nmlaw : List Str := ["script", "wires", "text", "k", "way", "at", "some", "sign", "far", "due", "found"]
theorem sclaw : FnScope nmlaw ["script"] (defScope slaw) := ⟨rfl, rfl, rfl, by decide +kernel, rfl, by decide +kernel, by decide +kernel⟩
/-- what the top has left: the defs, the constants, the names that are still the built-ins -/
structure Tx (K : Fg) (mg : Str → Option Value) : Prop where
  d_asked_wires : ∃ f fd, FunD K "asked_wires" "asked_wires" (defArgs sasked_wires) (defBody sasked_wires) (defScope sasked_wires) [] [] f fd ∧ mg "asked_wires" = some (.ref f)
  d_is_turn : ∃ f fd, FunD K "is_turn" "is_turn" (defArgs sis_turn) (defBody sis_turn) (defScope sis_turn) [] [] f fd ∧ mg "is_turn" = some (.ref f)
  d_is_gate : ∃ f fd, FunD K "is_gate" "is_gate" (defArgs sis_gate) (defBody sis_gate) (defScope sis_gate) [] [] f fd ∧ mg "is_gate" = some (.ref f)
  d_gate_of : ∃ f fd, FunD K "gate_of" "gate_of" (defArgs sgate_of) (defBody sgate_of) (defScope sgate_of) [] [] f fd ∧ mg "gate_of" = some (.ref f)
  d_read : ∃ f fd, FunD K "read" "read" (defArgs sread) (defBody sread) (defScope sread) [] [] f fd ∧ mg "read" = some (.ref f)
  d__law_cell_at : ∃ f fd, FunD K "_law_cell_at" "_law_cell_at" (defArgs s_law_cell_at) (defBody s_law_cell_at) (defScope s_law_cell_at) [] [] f fd ∧ mg "_law_cell_at" = some (.ref f)
  d__law_draw : ∃ f fd, FunD K "_law_draw" "_law_draw" (defArgs s_law_draw) (defBody s_law_draw) (defScope s_law_draw) [] [] f fd ∧ mg "_law_draw" = some (.ref f)
  d__law_word_of : ∃ f fd, FunD K "_law_word_of" "_law_word_of" (defArgs s_law_word_of) (defBody s_law_word_of) (defScope s_law_word_of) [] [] f fd ∧ mg "_law_word_of" = some (.ref f)
  d__law_gate : ∃ f fd, FunD K "_law_gate" "_law_gate" (defArgs s_law_gate) (defBody s_law_gate) (defScope s_law_gate) [] [] f fd ∧ mg "_law_gate" = some (.ref f)
  d__law_read : ∃ f fd, FunD K "_law_read" "_law_read" (defArgs s_law_read) (defBody s_law_read) (defScope s_law_read) [] [] f fd ∧ mg "_law_read" = some (.ref f)
  d__law_word_by : ∃ f fd, FunD K "_law_word_by" "_law_word_by" (defArgs s_law_word_by) (defBody s_law_word_by) (defScope s_law_word_by) [] [] f fd ∧ mg "_law_word_by" = some (.ref f)
  d__law_told : ∃ f fd, FunD K "_law_told" "_law_told" (defArgs s_law_told) (defBody s_law_told) (defScope s_law_told) [] [] f fd ∧ mg "_law_told" = some (.ref f)
  d_law : ∃ f fd, FunD K "law" "law" (defArgs slaw) (defBody slaw) (defScope slaw) [] [] f fd ∧ mg "law" = some (.ref f)
  g_MOST_WIRES : ∃ t, mg "MOST_WIRES" = some (.int 4 t)
  g_MOST_GATES : ∃ t, mg "MOST_GATES" = some (.int 1000 t)
  g_FIGURES : ∃ t, mg "FIGURES" = some (.str "0123" t)
  len : mg "len" = none
  range : mg "range" = none
  ValueError : mg "ValueError" = none
  sorted : mg "sorted" = none
  list : mg "list" = none
  tuple : mg "tuple" = none
  str : mg "str" = none
  int : mg "int" = none
  isinstance : mg "isinstance" = none
  set : mg "set" = none
  g_WireError : mg "WireError" = some (.ref (He.ga K "WireError"))
  g_NoWires : mg "NoWires" = some (.ref (He.ga K "NoWires"))
  g_NoGate : mg "NoGate" = some (.ref (He.ga K "NoGate"))
  g_NoShuffle : mg "NoShuffle" = some (.ref (He.ga K "NoShuffle"))
  g_NoTimes : mg "NoTimes" = some (.ref (He.ga K "NoTimes"))
  g_Odd : mg "Odd" = some (.ref (He.ga K "Odd"))
  g_NoNote : mg "NoNote" = some (.ref (He.ga K "NoNote"))
  x_NoWires : PySem.W.excIn K (He.ga K "NoWires") He.veBase "ValueError.__new__" = true
  k_NoWires : PySem.W.keepIn K (.ref (He.ga K "NoWires")) = true
  b_NoWires : PySem.W.subIn K (.ref (He.ga K "NoWires")) (.type "BaseException") = some true
  t_NoWires : PySem.W.typeIn K (.ref (He.ga K "NoWires")) = some (.type "type")
  x_NoGate : PySem.W.excIn K (He.ga K "NoGate") He.veBase "ValueError.__new__" = true
  k_NoGate : PySem.W.keepIn K (.ref (He.ga K "NoGate")) = true
  b_NoGate : PySem.W.subIn K (.ref (He.ga K "NoGate")) (.type "BaseException") = some true
  t_NoGate : PySem.W.typeIn K (.ref (He.ga K "NoGate")) = some (.type "type")
  x_NoShuffle : PySem.W.excIn K (He.ga K "NoShuffle") He.veBase "ValueError.__new__" = true
  k_NoShuffle : PySem.W.keepIn K (.ref (He.ga K "NoShuffle")) = true
  b_NoShuffle : PySem.W.subIn K (.ref (He.ga K "NoShuffle")) (.type "BaseException") = some true
  t_NoShuffle : PySem.W.typeIn K (.ref (He.ga K "NoShuffle")) = some (.type "type")
  x_NoTimes : PySem.W.excIn K (He.ga K "NoTimes") He.veBase "ValueError.__new__" = true
  k_NoTimes : PySem.W.keepIn K (.ref (He.ga K "NoTimes")) = true
  b_NoTimes : PySem.W.subIn K (.ref (He.ga K "NoTimes")) (.type "BaseException") = some true
  t_NoTimes : PySem.W.typeIn K (.ref (He.ga K "NoTimes")) = some (.type "type")
  x_Odd : PySem.W.excIn K (He.ga K "Odd") He.veBase "ValueError.__new__" = true
  k_Odd : PySem.W.keepIn K (.ref (He.ga K "Odd")) = true
  b_Odd : PySem.W.subIn K (.ref (He.ga K "Odd")) (.type "BaseException") = some true
  t_Odd : PySem.W.typeIn K (.ref (He.ga K "Odd")) = some (.type "type")
  x_NoNote : PySem.W.excIn K (He.ga K "NoNote") He.veBase "ValueError.__new__" = true
  k_NoNote : PySem.W.keepIn K (.ref (He.ga K "NoNote")) = true
  b_NoNote : PySem.W.subIn K (.ref (He.ga K "NoNote")) (.type "BaseException") = some true
  t_NoNote : PySem.W.typeIn K (.ref (He.ga K "NoNote")) = some (.type "type")
  ex : exB K = true
def fn : List He.DefD := [⟨("asked_wires", none), "asked_wires", "asked_wires", defArgs sasked_wires, defBody sasked_wires, defScope sasked_wires, [], []⟩,
  ⟨("is_turn", none), "is_turn", "is_turn", defArgs sis_turn, defBody sis_turn, defScope sis_turn, [], []⟩,
  ⟨("is_gate", none), "is_gate", "is_gate", defArgs sis_gate, defBody sis_gate, defScope sis_gate, [], []⟩,
  ⟨("gate_of", none), "gate_of", "gate_of", defArgs sgate_of, defBody sgate_of, defScope sgate_of, [], []⟩,
  ⟨("read", none), "read", "read", defArgs sread, defBody sread, defScope sread, [], []⟩,
  ⟨("_law_cell_at", none), "_law_cell_at", "_law_cell_at", defArgs s_law_cell_at, defBody s_law_cell_at, defScope s_law_cell_at, [], []⟩,
  ⟨("_law_draw", none), "_law_draw", "_law_draw", defArgs s_law_draw, defBody s_law_draw, defScope s_law_draw, [], []⟩,
  ⟨("_law_word_of", none), "_law_word_of", "_law_word_of", defArgs s_law_word_of, defBody s_law_word_of, defScope s_law_word_of, [], []⟩,
  ⟨("_law_gate", none), "_law_gate", "_law_gate", defArgs s_law_gate, defBody s_law_gate, defScope s_law_gate, [], []⟩,
  ⟨("_law_read", none), "_law_read", "_law_read", defArgs s_law_read, defBody s_law_read, defScope s_law_read, [], []⟩,
  ⟨("_law_word_by", none), "_law_word_by", "_law_word_by", defArgs s_law_word_by, defBody s_law_word_by, defScope s_law_word_by, [], []⟩,
  ⟨("_law_told", none), "_law_told", "_law_told", defArgs s_law_told, defBody s_law_told, defScope s_law_told, [], []⟩,
  ⟨("law", none), "law", "law", defArgs slaw, defBody slaw, defScope slaw, [], []⟩]
def fa : List He.Fa := [.glo "asked_wires", .glo "is_turn", .glo "is_gate", .glo "gate_of", .glo "read", .glo "_law_cell_at", .glo "_law_draw", .glo "_law_word_of", .glo "_law_gate", .glo "_law_read", .glo "_law_word_by", .glo "_law_told", .glo "law", .int "MOST_WIRES" 4, .int "MOST_GATES" 1000, .str "FIGURES" "0123", .free "len", .free "range", .free "ValueError", .free "sorted", .free "list", .free "tuple", .free "str", .free "int", .free "isinstance", .free "set", .glo "WireError", .glo "NoWires", .glo "NoGate", .glo "NoShuffle", .glo "NoTimes", .glo "Odd", .glo "NoNote", .exc "NoWires", .exc "NoGate", .exc "NoShuffle", .exc "NoTimes", .exc "Odd", .exc "NoNote"]
set_option maxHeartbeats 0 in
def loose0 : List Str := ["WireError", "NoWires", "NoGate", "NoShuffle", "NoTimes", "Odd", "NoNote", "MOST_WIRES", "MOST_GATES", "asked_wires", "is_turn", "is_gate", "FIGURES", "gate_of", "read"]
def loose1 : List Str := ["_law_cell_at", "_law_draw", "_law_word_of", "_law_gate", "_law_read", "_law_word_by", "_law_told"]
abbrev loose : List Str := loose0 ++ loose1
abbrev R : PySem.W.OpenRow := PySem.W.OpenLaw.row PySem.Challenge.rw_undogates_k12_read_or_refused
abbrev hk : PySem.W.Hook := hookY 4 fa fn exB
def ob (s : PySem.W.SharedT) : He.AlD × Bool := obsYG 4 fa fn exB (HandSHeadRun.getT s)
theorem ob_eq (s : PySem.W.SharedT) : ob s = hk.obs s.abs := obsYG_eq (HandSHeadRun.getT_eq s)
set_option maxHeartbeats 0 in
theorem run (w : World) : HandSHeadRun.RunEq R (PySem.W.view R.prog [26]) hk ob 3000 loose w := by
  intro os
  kernel_rfl
theorem tx_of {K : Fg} {h : Heap} {mg : Str → Option Value} (X : K.In h) (G : h.Ns mainGlobals mg) (c : He.SaysD fa fn K) (cx : exB K = true) : Tx K mg where
  d_asked_wires := by
    obtain ⟨fd, F⟩ := c.def_ 0 rfl
    exact ⟨_, fd, F, He.glo_ok X G (c.fact 0 (f := .glo "asked_wires") rfl)⟩
  d_is_turn := by
    obtain ⟨fd, F⟩ := c.def_ 1 rfl
    exact ⟨_, fd, F, He.glo_ok X G (c.fact 1 (f := .glo "is_turn") rfl)⟩
  d_is_gate := by
    obtain ⟨fd, F⟩ := c.def_ 2 rfl
    exact ⟨_, fd, F, He.glo_ok X G (c.fact 2 (f := .glo "is_gate") rfl)⟩
  d_gate_of := by
    obtain ⟨fd, F⟩ := c.def_ 3 rfl
    exact ⟨_, fd, F, He.glo_ok X G (c.fact 3 (f := .glo "gate_of") rfl)⟩
  d_read := by
    obtain ⟨fd, F⟩ := c.def_ 4 rfl
    exact ⟨_, fd, F, He.glo_ok X G (c.fact 4 (f := .glo "read") rfl)⟩
  d__law_cell_at := by
    obtain ⟨fd, F⟩ := c.def_ 5 rfl
    exact ⟨_, fd, F, He.glo_ok X G (c.fact 5 (f := .glo "_law_cell_at") rfl)⟩
  d__law_draw := by
    obtain ⟨fd, F⟩ := c.def_ 6 rfl
    exact ⟨_, fd, F, He.glo_ok X G (c.fact 6 (f := .glo "_law_draw") rfl)⟩
  d__law_word_of := by
    obtain ⟨fd, F⟩ := c.def_ 7 rfl
    exact ⟨_, fd, F, He.glo_ok X G (c.fact 7 (f := .glo "_law_word_of") rfl)⟩
  d__law_gate := by
    obtain ⟨fd, F⟩ := c.def_ 8 rfl
    exact ⟨_, fd, F, He.glo_ok X G (c.fact 8 (f := .glo "_law_gate") rfl)⟩
  d__law_read := by
    obtain ⟨fd, F⟩ := c.def_ 9 rfl
    exact ⟨_, fd, F, He.glo_ok X G (c.fact 9 (f := .glo "_law_read") rfl)⟩
  d__law_word_by := by
    obtain ⟨fd, F⟩ := c.def_ 10 rfl
    exact ⟨_, fd, F, He.glo_ok X G (c.fact 10 (f := .glo "_law_word_by") rfl)⟩
  d__law_told := by
    obtain ⟨fd, F⟩ := c.def_ 11 rfl
    exact ⟨_, fd, F, He.glo_ok X G (c.fact 11 (f := .glo "_law_told") rfl)⟩
  d_law := by
    obtain ⟨fd, F⟩ := c.def_ 12 rfl
    exact ⟨_, fd, F, He.glo_ok X G (c.fact 12 (f := .glo "law") rfl)⟩
  g_MOST_WIRES := He.int_ok X G (c.fact 13 (f := .int "MOST_WIRES" 4) rfl)
  g_MOST_GATES := He.int_ok X G (c.fact 14 (f := .int "MOST_GATES" 1000) rfl)
  g_FIGURES := He.str_ok X G (c.fact 15 (f := .str "FIGURES" "0123") rfl)
  len := He.free_ok X G (c.fact 16 (f := .free "len") rfl)
  range := He.free_ok X G (c.fact 17 (f := .free "range") rfl)
  ValueError := He.free_ok X G (c.fact 18 (f := .free "ValueError") rfl)
  sorted := He.free_ok X G (c.fact 19 (f := .free "sorted") rfl)
  list := He.free_ok X G (c.fact 20 (f := .free "list") rfl)
  tuple := He.free_ok X G (c.fact 21 (f := .free "tuple") rfl)
  str := He.free_ok X G (c.fact 22 (f := .free "str") rfl)
  int := He.free_ok X G (c.fact 23 (f := .free "int") rfl)
  isinstance := He.free_ok X G (c.fact 24 (f := .free "isinstance") rfl)
  set := He.free_ok X G (c.fact 25 (f := .free "set") rfl)
  g_WireError := He.glo_ok X G (c.fact 26 (f := .glo "WireError") rfl)
  g_NoWires := He.glo_ok X G (c.fact 27 (f := .glo "NoWires") rfl)
  g_NoGate := He.glo_ok X G (c.fact 28 (f := .glo "NoGate") rfl)
  g_NoShuffle := He.glo_ok X G (c.fact 29 (f := .glo "NoShuffle") rfl)
  g_NoTimes := He.glo_ok X G (c.fact 30 (f := .glo "NoTimes") rfl)
  g_Odd := He.glo_ok X G (c.fact 31 (f := .glo "Odd") rfl)
  g_NoNote := He.glo_ok X G (c.fact 32 (f := .glo "NoNote") rfl)
  x_NoWires := (He.exc_ok (c.fact 33 (f := .exc "NoWires") rfl)).1
  k_NoWires := (He.exc_ok (c.fact 33 (f := .exc "NoWires") rfl)).2.1
  b_NoWires := (He.exc_ok (c.fact 33 (f := .exc "NoWires") rfl)).2.2.1
  t_NoWires := (He.exc_ok (c.fact 33 (f := .exc "NoWires") rfl)).2.2.2
  x_NoGate := (He.exc_ok (c.fact 34 (f := .exc "NoGate") rfl)).1
  k_NoGate := (He.exc_ok (c.fact 34 (f := .exc "NoGate") rfl)).2.1
  b_NoGate := (He.exc_ok (c.fact 34 (f := .exc "NoGate") rfl)).2.2.1
  t_NoGate := (He.exc_ok (c.fact 34 (f := .exc "NoGate") rfl)).2.2.2
  x_NoShuffle := (He.exc_ok (c.fact 35 (f := .exc "NoShuffle") rfl)).1
  k_NoShuffle := (He.exc_ok (c.fact 35 (f := .exc "NoShuffle") rfl)).2.1
  b_NoShuffle := (He.exc_ok (c.fact 35 (f := .exc "NoShuffle") rfl)).2.2.1
  t_NoShuffle := (He.exc_ok (c.fact 35 (f := .exc "NoShuffle") rfl)).2.2.2
  x_NoTimes := (He.exc_ok (c.fact 36 (f := .exc "NoTimes") rfl)).1
  k_NoTimes := (He.exc_ok (c.fact 36 (f := .exc "NoTimes") rfl)).2.1
  b_NoTimes := (He.exc_ok (c.fact 36 (f := .exc "NoTimes") rfl)).2.2.1
  t_NoTimes := (He.exc_ok (c.fact 36 (f := .exc "NoTimes") rfl)).2.2.2
  x_Odd := (He.exc_ok (c.fact 37 (f := .exc "Odd") rfl)).1
  k_Odd := (He.exc_ok (c.fact 37 (f := .exc "Odd") rfl)).2.1
  b_Odd := (He.exc_ok (c.fact 37 (f := .exc "Odd") rfl)).2.2.1
  t_Odd := (He.exc_ok (c.fact 37 (f := .exc "Odd") rfl)).2.2.2
  x_NoNote := (He.exc_ok (c.fact 38 (f := .exc "NoNote") rfl)).1
  k_NoNote := (He.exc_ok (c.fact 38 (f := .exc "NoNote") rfl)).2.1
  b_NoNote := (He.exc_ok (c.fact 38 (f := .exc "NoNote") rfl)).2.2.1
  t_NoNote := (He.exc_ok (c.fact 38 (f := .exc "NoNote") rfl)).2.2.2
  ex := cx
section
variable {P : Program} {wld : World} {K : Fg} {mg : Str → Option Value} {base : Heap}
theorem c_asked_wires (T : Tx K mg)  : Cad CX0 P wld K mg base 1 "asked_wires" S_asked_wires := by
  refine cl_of T.d_asked_wires scasked_wires (fun f fd F => F.bindsN fun _ _ _ _ _ _ us hl => match us, hl with | [_], _ => rfl) (fun ds r h => by obtain ⟨w, rfl, _⟩ := h; rfl) (fun f_ cdv_ A_ outer_ s_ H E M0 ds r hr hs hE => ?_)
  obtain ⟨w, rfl, hw, rfl⟩ := hs
  refine ⟨_, pss_one (ps_if (PW.pt (pw_or (pt_cmpR op_lt (pv 0) pe_int (nomark _)) (pw_or1 (pt_cmpR op_gt (pv 0) (pe_gint (by rfl) T.g_MOST_WIRES) (nomark _))))) (pss_one ps_never) (pss_nil)), ?_⟩
  show SD K M0 H _ [.d (.int w)] _
  refine sd_if (ets (et_or (et_test (ed_I0b (ed_var rfl) ed_int)) fun _ => et_test (ed_I0b (ed_var rfl) ed_int))) (fun h => ?_) (fun _ => sd_next rfl)
  simp only [Bool.or_eq_true, decide_eq_true_eq] at h
  omega

theorem c__law_cell_at (T : Tx K mg)  : Cad CX0 P wld K mg base 1 "_law_cell_at" S_law_cell_at := by
  refine cl_of T.d__law_cell_at sc_law_cell_at (fun f fd F => F.bindsN fun _ _ _ _ _ _ us hl => match us, hl with | [_, _], _ => rfl) (fun ds r h => by obtain ⟨ns, k, rfl, _⟩ := h; rfl) (fun f_ cdv_ A_ outer_ s_ H E M0 ds r hr hs hE => ?_)
  obtain ⟨ns, k, rfl, hk, rfl⟩ := hs
  refine ⟨_, pss_cons (ps_if (pt_cmpR op_lt (pv 1) (pe_callB (cLen K rfl) (by rfl) T.len (by decide +kernel) (pa_cons (pv 0) pa_nil)) (nomark _)) (pss_one (ps_ret (pe_ix (ixL K rfl) (pv 0) (pv 1) (fun _ _ => rfl)))) (pss_nil))
 (pss_one (ps_ret pe_int)), ?_⟩
  show SD K M0 H _ [.d (scrD ns), .d (.int k)] _
  refine sd_seq (sd_if (ets (et_test (ed_I0b (ed_var rfl) (ed_cb (ea_one (ed_var rfl)) cd_lenScr)))) (fun h => ?_) (fun h => sd_next ?_))
  · have hlt : k < (ns.length : Int) := of_decide_eq_true h
    refine sd_ret (ed_op (ed_var rfl) (ed_var rfl) (rd_ixScr (n := cellv ns k) ?_)) rfl
    exact atI_ofNat hk (at'_getElem hk hlt)
  · have hge : ¬ k < (ns.length : Int) := of_decide_eq_false h
    have e : cellv ns k = 0 := by
      unfold cellv
      rw [List.getD_eq_getElem?_getD, List.getElem?_eq_none (by omega)]
      rfl
    rw [e]
    exact sd_ret ed_int rfl
theorem c__law_draw (T : Tx K mg)  : Cad CX0 P wld K mg base 1 "_law_draw" S_law_draw := by
  refine cl_of T.d__law_draw sc_law_draw (fun f fd F => F.bindsN fun _ _ _ _ _ _ us hl => match us, hl with | [_, _, _], _ => rfl) (fun ds r h => by obtain ⟨c, k, b, rfl, _⟩ := h; rfl) (fun f_ cdv_ A_ outer_ s_ H E M0 ds r hr hs hE => ?_)
  obtain ⟨c, k, b, rfl, hb, rfl⟩ := hs
  refine ⟨_, pss_cons (ps_set (i := 3) sc_law_draw.nd rfl (Or.inl rfl) (pe_op op_mod (pe_op op_mul (pe_op op_add (pe_op op_add (pe_op op_mod (pv 0) pe_int) (pe_op op_mul pe_int (pv 1))) pe_int) pe_int) pe_int))
 (pss_cons (ps_set (i := 3) sc_law_draw.nd rfl (Or.inl rfl) (pe_op op_mod (pe_op op_mul (pv 3) (pv 3)) pe_int))
 (pss_cons (ps_set (i := 3) sc_law_draw.nd rfl (Or.inl rfl) (pe_op op_mod (pe_op op_mul (pe_op op_add (pv 3) (pe_op op_mul pe_int (pe_op op_add (pv 1) pe_int))) pe_int) pe_int))
 (pss_one (ps_ret (pe_op op_mod (pe_op op_fdiv (pv 3) pe_int) (pv 2)))))), ?_⟩
  show SD K M0 H _ [.d (.int c), .d (.int k), .d (.int b), .u] _
  refine sd_seq (sd_asg (eds_h (ed_Ii (ed_Ii (ed_I0i (ed_I0i (ed_Ii (ed_var rfl) ed_int (by decide)) (ed_Ii ed_int (ed_var rfl) (.inl (by decide)))) ed_int) ed_int (.inr (by decide))) ed_int (by decide))) ?_)
  refine sd_seq (sd_asg (eds_h (ed_Ii (ed_Ii (ed_var rfl) (ed_var rfl) (.inl ?_)) ed_int (by decide))) ?_)
  · have h1 := Int.emod_nonneg ((c % 2147483647 + 977 * k + 1) * 48271) (show (2147483647 : Int) ≠ 0 by decide)
    have h2 := Int.emod_lt_of_pos ((c % 2147483647 + 977 * k + 1) * 48271) (show (0 : Int) < 2147483647 by decide)
    omega
  refine sd_seq (sd_asg (eds_h (ed_Ii (ed_Ii (ed_I0i (ed_var rfl) (ed_Ii ed_int (ed_I0i (ed_var rfl) ed_int) (.inl (by decide)))) ed_int (.inr (by decide))) ed_int (by decide))) ?_)
  exact sd_ret (ed_Ii (ed_Ii (ed_var rfl) ed_int (cdk (by decide))) (ed_var rfl) hb) rfl

theorem c_is_turn (T : Tx K mg)  : Cad CX0 P wld K mg base 1 "is_turn" S_is_turn := by
  refine cl_of T.d_is_turn scis_turn (fun f fd F => F.bindsN fun _ _ _ _ _ _ us hl => match us, hl with | [_, _, _], _ => rfl) (fun ds r h => by obtain ⟨n, w, ws, rfl, _⟩ := h; rfl) (fun f_ cdv_ A_ outer_ s_ H E M0 ds r hr hs hE => ?_)
  obtain ⟨n, w, ws, rfl, rfl⟩ := hs
  refine ⟨_, pss_cons (ps_if (PW.pt (pw_or (pt_cmpR op_lt (pv 1) pe_int (nomark _)) (pw_or (pt_cmpR op_ge (pv 1) (pv 0) (nomark _)) (pw_or1 (pt_cmpR (opIn K rfl) (pv 1) (pv 2) (by rfl)))))) (pss_one (ps_ret pe_bl)) (pss_nil))
 (pss_cons (ps_set (i := 3) scis_turn.nd rfl (Or.inl rfl) (pe_un un_neg pe_int))
 (pss_cons (ps_for (passes_of rfl) rfl (piT K rfl (pv 2)) (pg_name (i := 4) scis_turn.nd rfl (Or.inl rfl)) (pss_cons (ps_if (PW.pt (pw_or (pt_cmpR op_le (pv 4) (pv 3) (nomark _)) (pw_or1 (pt_cmpR op_ge (pv 4) (pv 0) (nomark _))))) (pss_one (ps_ret pe_bl)) (pss_nil))
 (pss_one (ps_set (i := 3) scis_turn.nd rfl (Or.inl rfl) (pv 4)))))
 (pss_one (ps_ret pe_bl)))), ?_⟩
  show SD K M0 H _ [.d (.int n), .d (.int w), .d (.tuple (ws.map .int)), .u, .u] _
  refine sd_seq (sd_if (c := decide (w < 0 ∨ w ≥ n ∨ w ∈ ws)) (ets (ET.is (et_or (et_test (ed_I0b (ed_var rfl) ed_int)) fun _ => et_or (et_test (ed_I0b (ed_var rfl) (ed_var rfl))) fun _ => et_test (ed_op (ed_var rfl) (ed_var rfl) rd_inTI)) (by simp only [Bool.decide_or, ge_iff_le]))) (fun h => ?_) (fun h => sd_next ?_))
  · have h1 := of_decide_eq_true h
    unfold isTurnB
    rw [if_pos h1]
    exact sd_ret ed_bl rfl
  · have h1 := of_decide_eq_false h
    unfold isTurnB
    rw [if_neg h1]
    refine sd_seq (sd_asg (eds_h (ed_neg ed_int)) ?_)
    refine sd_seq (sd_forT (enc := .int) (xs := ws) (eds_h (ed_var rfl)) (fun i ρ => ∃ (b : Int) (x : Sl), ρ = [.d (.int n), .d (.int w), .d (.tuple (ws.map .int)), .d (.int b), x] ∧ incrB n (-1) ws = incrB n b (ws.drop i)) ⟨-1, .u, rfl, rfl⟩ (fun i x ρ' hx hp => ?_) (fun ρ' hp => ?_))
    · obtain ⟨b, y, rfl, hb⟩ := hp
      have hl : i < ws.length := (List.getElem?_eq_some_iff.mp hx).1
      have e : ws.drop i = x :: ws.drop (i + 1) := by
        rw [List.drop_eq_getElem_cons hl]
        rw [List.getElem?_eq_getElem hl] at hx
        rw [Option.some.inj hx]
      rw [e] at hb
      refine sd_seq (sd_if (c := decide (x ≤ b ∨ x ≥ n)) (ets (ET.is (et_or (et_test (ed_I0b (ed_var rfl) (ed_var rfl))) fun _ => et_test (ed_I0b (ed_var rfl) (ed_var rfl))) (by simp only [Bool.decide_or, ge_iff_le]))) (fun h => ?_) (fun h => sd_next ?_))
      · have h2 := of_decide_eq_true h
        rw [hb]
        unfold incrB
        rw [if_pos h2]
        exact sd_ret ed_bl rfl
      · have h2 := of_decide_eq_false h
        refine sd_asg (eds_h (ed_var rfl)) ⟨x, .d (.int x), rfl, ?_⟩
        rw [hb]
        show (if x ≤ b ∨ x ≥ n then false else incrB n x (ws.drop (i + 1))) = _
        rw [if_neg h2]
    · obtain ⟨b, y, rfl, hb⟩ := hp
      rw [List.drop_length] at hb
      rw [hb]
      exact sd_ret ed_bl rfl
theorem c_is_gate (T : Tx K mg) (c_is_turn : Cad CX0 P wld K mg base 1 "is_turn" S_is_turn) : Cad CX0 P wld K mg base 2 "is_gate" S_is_gate := by
  refine cl_of T.d_is_gate scis_gate (fun f fd F => F.bindsN fun _ _ _ _ _ _ us hl => match us, hl with | [_, _], _ => rfl) (fun ds r h => by obtain ⟨n, g, rfl, _⟩ := h; rfl) (fun f_ cdv_ A_ outer_ s_ H E M0 ds r hr hs hE => ?_)
  obtain ⟨n, g, rfl, rfl⟩ := hs
  refine ⟨_, pss_cons (ps_if (pt_cmpR op_eq (pe_ix (ixT K rfl) (pv 1) pe_int (fun _ _ => rfl)) pe_str (nomark _)) (pss_one (ps_ret (kCl K rfl (pe_cl c_is_turn hr (by decide) pass0 (by rfl) (pa_cons (pv 0) (pa_cons (pe_ix (ixT K rfl) (pv 1) pe_int (fun _ _ => rfl)) (pa_cons (pe_ix (ixT K rfl) (pv 1) pe_int (fun _ _ => rfl)) pa_nil))))))) (pss_nil))
 (pss_one (ps_ret (pe_chain3 op_le op_lt op_lt pe_int (pe_ix (ixT K rfl) (pv 1) pe_int (fun _ _ => rfl)) (pe_ix (ixT K rfl) (pv 1) pe_int (fun _ _ => rfl)) (pv 0)))), ?_⟩
  cases g with
  | turn w ws =>
    show SD K M0 H _ [.d (.int n), .d (encG (.turn w ws))] _
    refine sd_seq (sd_if (ets (et_test (ed_eqS (ed_ixT (ed_var rfl) ed_int rfl) ed_str))) (fun _ => ?_) (fun h => by simp at h))
    exact sd_ret (ed_call (ea_cons (ed_var rfl) (ea_cons (ed_ixT (ed_var rfl) ed_int rfl) (ea_one (ed_ixT (ed_var rfl) ed_int rfl)))) ⟨n, w, ws, rfl, rfl⟩) rfl
  | swap a b =>
    show SD K M0 H _ [.d (.int n), .d (encG (.swap a b))] _
    refine sd_seq (sd_if (ets (et_test (ed_eqS (ed_ixT (ed_var rfl) ed_int rfl) ed_str))) (fun h => absurd h (by decide +kernel)) (fun _ => sd_next ?_))
    exact sd_ret (ed_chain3I ed_int (ed_ixT (ed_var rfl) ed_int rfl) (ed_ixT (ed_var rfl) ed_int rfl) (ed_var rfl)) rfl

theorem x_asked_wires (T : Tx K mg)  : Cad (L2.CX P wld) P wld K mg base 1 "asked_wires" (X_asked_wires K) := by
  refine cl_of T.d_asked_wires scasked_wires (fun f fd F => F.bindsN fun _ _ _ _ _ _ us hl => match us, hl with | [_], _ => rfl) (fun ds r h => by obtain ⟨w, rfl, _⟩ := h; rfl) (fun f_ cdv_ A_ outer_ s_ H E M0 ds r hr hs hE => ?_)
  obtain ⟨w, rfl, hw, rfl⟩ := hs
  refine ⟨_, pss_one (ps_if (PW.pt (pw_or (pt_cmpR op_lt (pv 0) pe_int (nomark _)) (pw_or1 (pt_cmpR op_gt (pv 0) (pe_gint (by rfl) T.g_MOST_WIRES) (nomark _))))) (pss_one (ps_raise rfl (takes_of rfl rfl rfl rfl) (pmk_own PySem.F.excBase_ValueError T.x_NoWires T.g_NoWires T.k_NoWires (raises_own T.b_NoWires T.t_NoWires) (by exact rfl)))) (pss_nil)), ?_⟩
  show SD K M0 H _ [.d (.int w)] _
  refine sd_if (c := true) (ets (ET.is (et_or (et_test (ed_I0b (ed_var rfl) ed_int)) fun _ => et_test (ed_I0b (ed_var rfl) ed_int)) ?_)) (fun _ => sd_raise (hE _ rfl)) (fun h => by cases h)
  simp only [Bool.or_eq_true, decide_eq_true_eq]
  omega

theorem c__law_word_of (T : Tx K mg) : WordDef P wld K mg base "_law_word_of" (WordW K) := by
  obtain ⟨f, fd, F, hm⟩ := T.d__law_word_of
  refine ⟨f, fd, _, _, _, nm_law_word_of, F, hm, sc_law_word_of, F.bindsN fun _ _ _ _ _ _ us hl => match us, hl with | [_], _ => rfl, ?_⟩
  rintro C w ⟨x, hx, rfl, rfl⟩ cdv A_ outer s H M0 a oe hz_ hf_
  have ef := exB_ok T.ex x hx
  have cc_ := ef.cc
  have hp_ : (a, oe) ∈ [(a, oe)] := List.mem_cons_self
  refine ⟨_, pss_cons (ps_set (i := 1) sc_law_word_of.nd rfl (Or.inl rfl) (pe_lst (pa_cons (pe_callB (call_isP cc_ hp_ hz_ hf_) (by rfl) T.isinstance (by decide +kernel) (pa_cons (pv 0) (pa_cons (pe_glob (v := .ref (He.ga K "NoWires")) (by rfl) T.g_NoWires rfl) pa_nil))) (pa_cons (pe_callB (call_isP cc_ hp_ hz_ hf_) (by rfl) T.isinstance (by decide +kernel) (pa_cons (pv 0) (pa_cons (pe_glob (v := .ref (He.ga K "NoGate")) (by rfl) T.g_NoGate rfl) pa_nil))) (pa_cons (pe_callB (call_isP cc_ hp_ hz_ hf_) (by rfl) T.isinstance (by decide +kernel) (pa_cons (pv 0) (pa_cons (pe_glob (v := .ref (He.ga K "NoShuffle")) (by rfl) T.g_NoShuffle rfl) pa_nil))) pa_nil)))))
 (pss_cons (ps_set (i := 1) sc_law_word_of.nd rfl (Or.inl rfl) (pe_op op_cat (pv 1) (pe_lst (pa_cons (pe_callB (call_isP cc_ hp_ hz_ hf_) (by rfl) T.isinstance (by decide +kernel) (pa_cons (pv 0) (pa_cons (pe_glob (v := .ref (He.ga K "NoTimes")) (by rfl) T.g_NoTimes rfl) pa_nil))) (pa_cons (pe_callB (call_isP cc_ hp_ hz_ hf_) (by rfl) T.isinstance (by decide +kernel) (pa_cons (pv 0) (pa_cons (pe_glob (v := .ref (He.ga K "Odd")) (by rfl) T.g_Odd rfl) pa_nil))) (pa_cons (pe_callB (call_isP cc_ hp_ hz_ hf_) (by rfl) T.isinstance (by decide +kernel) (pa_cons (pv 0) (pa_cons (pe_glob (v := .ref (He.ga K "NoNote")) (by rfl) T.g_NoNote rfl) pa_nil))) pa_nil))))))
 (pss_cons (ps_if (PW.pt (pw_or (pt_cmpR op_ne (kBm K rfl (pe_bm PySem.F.plainAttrs_list PySem.F.slot_list_count PySem.F.type_list_count (mCountF K rfl) (pv 1) (pa_cons pe_bl pa_nil))) pe_int (nomark _)) (pw_or1 (pt_not (pt_val (pe_callB (call_isP cc_ hp_ hz_ hf_) (by rfl) T.isinstance (by decide +kernel) (pa_cons (pv 0) (pa_cons (pe_bltn (v := .ty "ValueError") (by rfl) T.ValueError (by decide +kernel) rfl) pa_nil)))))))) (pss_one (ps_ret pe_str)) (pss_nil))
 (pss_one (ps_ret (pe_ix (ixL K rfl) (pe_lst (pa_cons pe_str (pa_cons pe_str (pa_cons pe_str (pa_cons pe_str (pa_cons pe_str (pa_cons pe_str pa_nil))))))) (kBm K rfl (pe_bm PySem.F.plainAttrs_list PySem.F.slot_list_index PySem.F.type_list_index (mIndex K rfl) (pv 1) (pa_cons pe_bl pa_nil))) (fun _ _ => rfl)))))), ?_⟩
  show SD K M0 H _ [.d (excD a), .u] _
  have hi : ∀ {δ : Dn} (y : Str), y ∈ clsN → δ[0]? = some (some (excD a)) → ED K (tCB (rIsE K (He.ga K x) a) (tCons (tVar 0) (tCons (tC (.ref (He.ga K y))) tNil))) δ (.bool (decide (x = y))) := fun y hy h => ed_isP (ed_var h) (fun u hu => hu) (ef.kk y hy)
  have hcnt := word_count x hx
  refine sd_seq (sd_asg (d := .list ([decide (x = "NoWires"), decide (x = "NoGate"), decide (x = "NoShuffle")].map PyData.bool)) (eds_h (EF.ed (ef_lst (ea_cons (hi _ (by decide +kernel) rfl) (ea_cons (hi _ (by decide +kernel) rfl) (ea_one (hi _ (by decide +kernel) rfl))))))) ?_)
  refine sd_seq (sd_asg (d := .list (([decide (x = "NoWires"), decide (x = "NoGate"), decide (x = "NoShuffle")] ++ [decide (x = "NoTimes"), decide (x = "Odd"), decide (x = "NoNote")]).map PyData.bool)) (eds_h (EF.ed (EF.is (ef_cat (ed_var rfl) (EF.ed (ef_lst (ea_cons (hi _ (by decide +kernel) rfl) (ea_cons (hi _ (by decide +kernel) rfl) (ea_one (hi _ (by decide +kernel) rfl)))))) (by show 3 + 3 ≤ 100000; decide)) rfl))) ?_)
  refine sd_seq (sd_if (ets (et_or (et_test (ed_neI (ed_countB (ed_var rfl) ed_bl) ed_int)) fun _ => et_not (et_B (ed_isP (ed_var rfl) (fun u hu => hu) ef.vm)))) (fun h => ?_) (fun _ => sd_next ?_))
  · rw [hcnt] at h
    simp at h
  · have hm : true ∈ [decide (x = "NoWires"), decide (x = "NoGate"), decide (x = "NoShuffle")] ++ [decide (x = "NoTimes"), decide (x = "Odd"), decide (x = "NoNote")] := List.count_pos_iff.mp (by rw [hcnt]; decide)
    refine sd_ret (ed_ixL (ds := wordN.map PyData.str) (EF.ed (ef_lst (ea_cons ed_str (ea_cons ed_str (ea_cons ed_str (ea_cons ed_str (ea_cons ed_str (ea_one ed_str)))))))) (ed_indexB (ed_var rfl) ed_bl hm) (atI_ofNat (Int.natCast_nonneg _) ?_)) rfl
    rw [Int.toNat_natCast, List.getElem?_map]
    have := word_at x hx
    have e : (clsN.map fun y => decide (x = y)) = [decide (x = "NoWires"), decide (x = "NoGate"), decide (x = "NoShuffle")] ++ [decide (x = "NoTimes"), decide (x = "Odd"), decide (x = "NoNote")] := rfl
    rw [e] at this
    rw [this]
    rfl

theorem c_gate_of (T : Tx K mg) (c_is_gate : Cad CX0 P wld K mg base 2 "is_gate" S_is_gate) : Cad (L2.CX P wld) P wld K mg base 3 "gate_of" (S_gate_ofX K) := by
  refine cl_of T.d_gate_of scgate_of (fun f fd F => F.bindsN fun _ _ _ _ _ _ us hl => match us, hl with | [_, _], _ => rfl) (fun ds r h => by obtain ⟨n, w, rfl, _⟩ := h; rfl) (fun f_ cdv_ A_ outer_ s_ H E M0 ds r hr hs hE => ?_)
  obtain ⟨n, w, rfl, hn, hwl, hre⟩ := hs
  refine ⟨_, pss_cons (ps_set (i := 2) scgate_of.nd rfl (Or.inl rfl) (pe_lst pa_nil))
 (pss_cons (ps_for (passes_of rfl) rfl (pi_str (pe_slice sl_str (pv 1) (po_some pe_int) po_none)) (pg_name (i := 3) scgate_of.nd rfl (Or.inl rfl)) (pss_cons (ps_if (pt_cmpR op_notIn_sign (pv 3) (pe_gstr (by rfl) T.g_FIGURES) (by rfl)) (pss_one (ps_raise rfl (takes_of rfl rfl rfl rfl) (pmk_own PySem.F.excBase_ValueError T.x_NoNote T.g_NoNote T.k_NoNote (raises_own T.b_NoNote T.t_NoNote) (by exact rfl)))) (pss_nil))
 (pss_one (ps_expr (kBm K rfl (pe_bm PySem.F.plainAttrs_list PySem.F.slot_list_append PySem.F.type_list_append mt_append (pv 2) (pa_cons (pe_callTy call_int_str (by rfl) T.int (by decide +kernel) (pa_cons (pv 3) pa_nil)) pa_nil)))))))
 (pss_cons (ps_set (i := 4) scgate_of.nd rfl (Or.inl rfl) pe_non)
 (pss_cons (ps_if (PW.pt (pw_and (pt_cmpR op_eq (pe_slice sl_str (pv 1) po_none (po_some pe_int)) pe_str (nomark _)) (pw_and1 (pt_cmpR op_gt (pe_callB (cLen K rfl) (by rfl) T.len (by decide +kernel) (pa_cons (pv 2) pa_nil)) pe_int (nomark _))))) (pss_one (ps_set (i := 4) scgate_of.nd rfl (Or.inl rfl) (pe_tup (pa_cons pe_str (pa_cons (pe_ix (ixL K rfl) (pv 2) pe_int (fun _ _ => rfl)) (pa_cons (pe_callTy (cTup K rfl) (by rfl) T.tuple (by decide +kernel) (pa_cons (pe_slice (slL K rfl) (pv 2) (po_some pe_int) po_none) pa_nil)) pa_nil)))))) (pss_nil))
 (pss_cons (ps_if (PW.pt (pw_and (pt_cmpR op_eq (pe_slice sl_str (pv 1) po_none (po_some pe_int)) pe_str (nomark _)) (pw_and1 (pt_cmpR op_eq (pe_callB (cLen K rfl) (by rfl) T.len (by decide +kernel) (pa_cons (pv 2) pa_nil)) pe_int (nomark _))))) (pss_one (ps_set (i := 4) scgate_of.nd rfl (Or.inl rfl) (pe_tup (pa_cons pe_str (pa_cons (pe_ix (ixL K rfl) (pv 2) pe_int (fun _ _ => rfl)) (pa_cons (pe_ix (ixL K rfl) (pv 2) pe_int (fun _ _ => rfl)) pa_nil)))))) (pss_nil))
 (pss_cons (ps_if (PW.pt (pw_or (pt_cmpR op_isN (pv 4) pe_non (nomark _)) (pw_or1 (pt_not (pt_val (kCl K rfl (pe_cl c_is_gate hr (by decide) pass0 (by rfl) (pa_cons (pv 0) (pa_cons (pv 4) pa_nil))))))))) (pss_one (ps_raise rfl (takes_of rfl rfl rfl rfl) (pmk_own PySem.F.excBase_ValueError T.x_NoNote T.g_NoNote T.k_NoNote (raises_own T.b_NoNote T.t_NoNote) (by exact rfl)))) (pss_nil))
 (pss_one (ps_ret (pv 4)))))))), ?_⟩
  show SD K M0 H _ [.d (.int n), .d (sD w), .u, .u, .u] _
  have hv : ∀ g', gateOf n w = some g' → r = .val (encG g') := fun g' h => by
    rw [h] at hre
    exact hre
  have hz : ∀ ρ E', gateOf n w = none → SD K M0 H (fun _ _ H => E (.ref (He.ga K "NoNote")) none H) ρ E' := fun ρ E' h => sd_raise (hE _ (by
    rw [h] at hre
    exact hre))
  refine sd_seq (sd_asgO (ds := []) (efs_h (ef_lst ea_nil)) ?_)
  refine sd_seq (sd_forS (cs := w.drop 1) (eds_h (ED.is (ed_slS (lo := some 1) (ed_var rfl) (eo_some ed_int) eo_none (by omega)) (by rw [cutL_from (by decide)]; rfl)))
    (fun i ρ => ∃ x, ρ = [.d (.int n), .d (sD w), .o ((((w.drop 1).take i).map fun c : Nat => (c : Int) - 48).map .int), x, .u] ∧ ((w.drop 1).take i).all isFig = true) ⟨_, rfl, rfl⟩ (fun i c ρ' hx hp => ?_) (fun ρ' hp => ?_))
  · obtain ⟨x, rfl, hall⟩ := hp
    have hil : i < (w.drop 1).length := (List.getElem?_eq_some_iff.mp hx).1
    have hwd : (w.drop 1).length ≤ w.length := by rw [List.length_drop]; omega
    refine sd_seq (sd_if (ets (et_test (ed_nin (b := [48, 49, 50, 51]) (ed_var rfl) (ed_strL rfl)))) (fun h => ?_) (fun h => sd_next ?_))
    · refine hz _ _ ?_
      have hc : isFig c = false := by
        unfold isFig
        cases hd : decide (c ∈ [48, 49, 50, 51]) with
        | true => rw [hd] at h; cases h
        | false => rfl
      unfold gateOf wordG
      rw [if_neg]
      intro hal
      have := List.all_eq_true.mp hal c (List.mem_of_getElem? hx)
      rw [hc] at this
      cases this
    · have hc : isFig c = true := by
        unfold isFig
        cases hd : decide (c ∈ [48, 49, 50, 51]) with
        | true => rfl
        | false => rw [hd] at h; cases h
      refine sd_app (i := 2) rfl (eds_h (ed_cb (ea_one (ed_var rfl)) (cd_intS (fig_int hc) (by rw [ofL_len]; show (1 : Nat) ≤ 640; decide)))) (by rw [List.length_map, List.length_map, List.length_take]; omega) ⟨.d (sD [c]), ?_, ?_⟩
      · rw [List.take_add_one, hx]
        simp only [List.set, Option.toList_some, List.map_append, List.map_cons, List.map_nil]
      · rw [List.take_add_one, hx, Option.toList_some, List.all_append, hall]
        simp [hc]
  · obtain ⟨x, rfl, hall⟩ := hp
    rw [List.take_length] at hall ⊢
    show SD K M0 H _ [.d (.int n), .d (sD w), .o ((figs w).map .int), x, .u] _
    have hfl : (figs w).length ≤ w.length := by unfold figs; rw [List.length_map, List.length_drop]; omega
    have hgo : gateOf n w = match (if w.take 1 = [116] ∧ (figs w).length > 0 then some (Gt.turn (at' (figs w) 0) ((figs w).drop 1)) else if w.take 1 = [115] ∧ (figs w).length = 2 then some (.swap (at' (figs w) 0) (at' (figs w) 1)) else none) with
      | some g => if vG n g = true then some g else none
      | none => none := by
      unfold gateOf wordG
      first
        | (rw [if_pos hall]; done)
        | (rw [if_pos hall]; rfl)
    have htake : ∀ {δ : Dn}, δ[1]? = some (some (sD w)) → ED K (tSl rSlS (tVar 1) tNoPart (tPart (tC (.int 1)))) δ (sD (w.take 1)) := fun h => ED.is (ed_slS (hi := some 1) (ed_var h) eo_none (eo_some ed_int) (by omega)) (by rw [cutL_to (by decide)]; rfl)
    have hlen : ∀ {δ : Dn}, δ[2]? = some (some (lint (figs w))) → ED K (tCB (U.rLen K) (tCons (tVar 2) tNil)) δ (.int ((figs w).length : Nat)) := fun h => ED.is (ed_cb (ea_one (ed_var h)) cd_lenL) (by rw [List.length_map])
    generalize figs w = fs at hfl hgo hlen ⊢
    refine sd_seq (sd_asg (d := .none) (eds_h ed_non) ?_)
    refine sd_cut (fun ρ => ρ = [.d (.int n), .d (sD w), .o (fs.map .int), x, .d (encO (if w.take 1 = [116] ∧ fs.length > 0 then some (Gt.turn (at' fs 0) (fs.drop 1)) else none))])
      (sd_if (c := decide (w.take 1 = [116] ∧ fs.length > 0)) (ets (ET.is (et_and (et_test (ed_eqL2 (htake rfl) (ed_strL rfl))) fun _ => et_test (ed_I0b (hlen rfl) ed_int)) ?_)) (fun h => ?_) (fun h => sd_next ?_)) (fun ρ' hp => ?_)
    · rw [Bool.decide_and]
      congr 1
      rw [decide_eq_decide]
      omega
    · have h1 := of_decide_eq_true h
      rw [if_pos h1]
      refine sd_asg (d := encG (.turn (at' fs 0) (fs.drop 1))) (eds_f (ED.is (ed_tup (ea_cons ed_str (ea_cons (ed_ixL (ed_var rfl) ed_int (at'_get (l := fs) (by decide) (by omega))) (ea_one (ed_cb (ea_one (EF.ed (EF.is (ef_slL (lo := some 1) (ed_var rfl) (eo_some ed_int) eo_none) (cutD_from (by decide))))) cd_tupL))))) ?_) (fz_encG _)) rfl
      rw [← List.map_drop]
      rfl
    · rw [if_neg (of_decide_eq_false h)]
      rfl
    · subst hp
      refine sd_cut (fun ρ => ρ = [.d (.int n), .d (sD w), .o (fs.map .int), x, .d (encO (if w.take 1 = [116] ∧ fs.length > 0 then some (Gt.turn (at' fs 0) (fs.drop 1)) else if w.take 1 = [115] ∧ fs.length = 2 then some (.swap (at' fs 0) (at' fs 1)) else none))])
        (sd_if (c := decide (w.take 1 = [115] ∧ fs.length = 2)) (ets (ET.is (et_and (et_test (ed_eqL2 (htake rfl) (ed_strL rfl))) fun _ => et_test (ed_eqI (hlen rfl) ed_int)) ?_)) (fun h => ?_) (fun h => sd_next ?_)) (fun ρ' hp => ?_)
      · rw [Bool.decide_and]
        congr 1
        rw [decide_eq_decide]
        omega
      · have h1 := of_decide_eq_true h
        have h0 : ¬ (w.take 1 = [116] ∧ fs.length > 0) := fun z => by
          rw [h1.1] at z
          exact absurd z.1 (by decide)
        rw [if_neg h0, if_neg h0, if_pos h1]
        exact sd_asg (d := encG (.swap (at' fs 0) (at' fs 1))) (eds_f (ED.is (ed_tup (ea_cons ed_str (ea_cons (ed_ixL (ed_var rfl) ed_int (at'_get (l := fs) (by decide) (by omega))) (ea_one (ed_ixL (ed_var rfl) ed_int (at'_get (l := fs) (by decide) (by omega))))))) rfl) (fz_encG _)) rfl
      · rw [if_neg (of_decide_eq_false h)]
      · subst hp
        generalize (if w.take 1 = [116] ∧ fs.length > 0 then some (Gt.turn (at' fs 0) (fs.drop 1)) else if w.take 1 = [115] ∧ fs.length = 2 then some (.swap (at' fs 0) (at' fs 1)) else none) = go at hgo ⊢
        cases go with
        | none =>
          exact sd_seq (sd_if (c := true) (ets (et_or (x := true) (y := true) (et_test (ed_op (ed_var rfl) ed_non (rd_isN (d := .none)))) fun h => by cases h)) (fun _ => hz _ _ hgo) (fun h => by cases h))
        | some g =>
          have hx : isNn (encG g) = false := by cases g <;> rfl
          have hgo2 : gateOf n w = if vG n g = true then some g else none := hgo
          refine sd_seq (sd_if (c := !vG n g) (ets (ET.is (et_or (et_test (ed_op (ed_var rfl) ed_non (rd_isN (d := encG g)))) fun _ => et_not (et_B (ed_call (ea_cons (ed_var rfl) (ea_one (ed_var rfl))) ⟨n, g, rfl, rfl⟩))) (by rw [hx]; rfl))) (fun h => hz _ _ ?_) (fun h => sd_next ?_))
          · rw [hgo2, if_neg]
            intro z
            rw [z] at h
            cases h
          · have hv2 : vG n g = true := by
              cases hq : vG n g with
              | true => rfl
              | false => rw [hq] at h; cases h
            rw [if_pos hv2] at hgo2
            refine sd_ret (ed_var rfl) ?_
            exact (hv g hgo2).symm
theorem c_read (T : Tx K mg) (c_asked_wires : Cad CX0 P wld K mg base 1 "asked_wires" S_asked_wires) (c_gate_of : Cad (L2.CX P wld) P wld K mg base 3 "gate_of" (S_gate_ofX K)) (x_asked_wires : Cad (L2.CX P wld) P wld K mg base 1 "asked_wires" (X_asked_wires K)) : Cad (L2.CX P wld) P wld K mg base 4 "read" (S_readX K) := by
  refine cl_of T.d_read scread (fun f fd F => F.bindsN fun _ _ _ _ _ _ us hl => match us, hl with | [_, _], _ => rfl) (fun ds r h => by obtain ⟨n, tx, rfl, _⟩ := h; rfl) (fun f_ cdv_ A_ outer_ s_ H E M0 ds r hr hs hE => ?_)
  obtain ⟨n, tx, rfl, hl, rfl⟩ := hs
  have hb := wordsL_bound tx
  by_cases hw : WOk n
  · by_cases hg : tx ≠ [] ∧ (wordsL tx).all (fun w => (gateOf n w).isSome) = false
    · obtain ⟨ht, hg⟩ := hg
      obtain ⟨i, hi, hbad, hgood⟩ := first_bad hg
      refine ⟨_, pss_cons (ps_expr (kCl K rfl (pe_cl c_asked_wires hr (by decide) pass0 (by rfl) (pa_cons (pv 0) pa_nil)))) (pss_cons (ps_if (pt_cmpR op_eq (pv 1) pe_str (nomark _)) (pss_one (ps_ret (pe_lst pa_nil))) (pss_nil)) (pss_cons (ps_setLcX (i := 2) (own := [("word", 3)]) (g := gName 3) rfl scread.nd rfl rfl (takes_of rfl rfl rfl rfl) rfl rfl (sw_true rfl rfl rfl (by decide +kernel)) (piL K rfl (pe_split (pv 1) pe_str)) (blkOk_by (own := [("word", 3)]) (N := nmread) (sc := defScope sread) (by decide +kernel)) (fun _ _ _ _ _ => pg_name (i := 3) scread.nd rfl (Or.inl rfl)) (fun _ _ _ _ _ _ hx => (kCl K rfl (pe_cl c_gate_of hr (by decide) hx (by rfl) (pa_cons (pv 0) (pa_cons (pv 3) pa_nil)))))) (pss_never))), ?_⟩
      show SD K M0 H _ [.d (.int n), .d (sD tx), .u, .u] _
      refine sd_seq (sd_drop (eds_h (ed_call (ea_one (ed_var rfl)) ⟨n, rfl, hw, rfl⟩)) ?_)
      refine sd_seq (sd_if (ets (et_test (ed_eqL2 (ed_var rfl) (ed_strL (a := []) rfl)))) (fun h => absurd (of_decide_eq_true h) ht) (fun h => sd_next ?_))
      refine sd_seq (sd_lcX (C := He.ga K "NoNote") (enc := fun w => sD w) (xs := wordsL tx) (G := fun w => encO (gateOf n w)) (EF.ed (EF.is (ef_split (ed_var rfl) (ed_strL (a := [32]) rfl) (by decide +kernel) (by rw [ofL_len]; omega)) (words_split tx))) (by omega) i hi (fun w => [.int n, sD w]) (fun w hwm => ea_cons (ed_var rfl) (ea_one (ed_var rfl))) (fun k w hk hx => ?_) (fun w hx => ?_) (hE _ ?_))
      · have := hb.2 w (List.mem_of_getElem? hx)
        exact gateX_some hw (by omega) (hgood k w hk hx)
      · have := hb.2 w (List.mem_of_getElem? hx)
        exact gateX_none hw (by omega) (hbad w hx)
      · unfold readR okB
        rw [if_neg (fun z => z hw), hg, if_neg]
        rintro (z | z)
        · exact ht z
        · cases z
    · refine ⟨_, pss_cons (ps_expr (kCl K rfl (pe_cl c_asked_wires hr (by decide) pass0 (by rfl) (pa_cons (pv 0) pa_nil))))
 (pss_cons (ps_if (pt_cmpR op_eq (pv 1) pe_str (nomark _)) (pss_one (ps_ret (pe_lst pa_nil))) (pss_nil))
 (pss_cons (ps_setLc (i := 2) (own := [("word", 3)]) (g := gName 3) rfl scread.nd rfl rfl (sw_true rfl rfl rfl (by decide +kernel)) (piL K rfl (pe_split (pv 1) pe_str)) (blkOk_by (own := [("word", 3)]) (N := nmread) (sc := defScope sread) (by decide +kernel)) (fun _ _ _ _ _ => pg_name (i := 3) scread.nd rfl (Or.inl rfl)) (fun _ _ _ _ _ => pts_nil) (fun _ _ _ _ _ => (kCl K rfl (pe_cl c_gate_of hr (by decide) U.passL (by rfl) (pa_cons (pv 0) (pa_cons (pv 3) pa_nil))))))
 (pss_cons (ps_if (pt_cmpR op_gt (pe_callB (cLen K rfl) (by rfl) T.len (by decide +kernel) (pa_cons (pv 2) pa_nil)) (pe_gint (by rfl) T.g_MOST_GATES) (nomark _)) (pss_one (ps_raise rfl (takes_of rfl rfl rfl rfl) (pmk_own PySem.F.excBase_ValueError T.x_NoNote T.g_NoNote T.k_NoNote (raises_own T.b_NoNote T.t_NoNote) (by exact rfl)))) (pss_nil))
 (pss_one (ps_ret (pv 2)))))), ?_⟩
      show SD K M0 H _ [.d (.int n), .d (sD tx), .u, .u] _
      refine sd_seq (sd_drop (eds_h (ed_call (ea_one (ed_var rfl)) ⟨n, rfl, hw, rfl⟩)) ?_)
      refine sd_seq (sd_if (ets (et_test (ed_eqL2 (ed_var rfl) (ed_strL (a := []) rfl)))) (fun h => ?_) (fun h => sd_next ?_))
      · have ht : tx = [] := of_decide_eq_true h
        subst ht
        refine sd_retF (ef_lst ea_nil) ?_
        show Ret.new [] = readR K n []
        unfold readR
        rw [if_neg (fun z => z hw), if_pos (.inl rfl)]
        rfl
      · have ht : ¬ tx = [] := of_decide_eq_false h
        have hall : (wordsL tx).all (fun w => (gateOf n w).isSome) = true := by
          cases hq : (wordsL tx).all (fun w => (gateOf n w).isSome) with
          | true => rfl
          | false => exact absurd ⟨ht, hq⟩ hg
        refine sd_seq (sd_asgO (ds := (wordsL tx).map fun w => encO (gateOf n w)) (efs_h (ef_lc1 (enc := fun w => sD w) (xs := wordsL tx) (G := fun w => encO (gateOf n w)) (EF.ed (EF.is (ef_split (ed_var rfl) (ed_strL (a := [32]) rfl) (by decide +kernel) (by rw [ofL_len]; omega)) (words_split tx))) (by omega) fun w hwm => ed_call (ea_cons (ed_var rfl) (ea_one (ed_var rfl))) (gateX_some hw (by have := hb.2 w hwm; omega) (List.all_eq_true.mp hall w hwm)))) ?_)
        refine sd_seq (sd_if (ets (et_test (ed_I0b (ED.is (ed_cb (ea_one (ed_var rfl)) cd_lenL) (by rw [List.length_map])) ed_int))) (fun h => sd_raise (hE _ ?_)) (fun h => sd_next ?_))
        · have := of_decide_eq_true h
          unfold readR okB
          rw [if_neg (fun z => z hw), hall, if_neg]
          rintro (z | z)
          · exact ht z
          · rw [Bool.true_and] at z
            have := of_decide_eq_true z
            omega
        · have := of_decide_eq_false h
          refine sd_retO (i := 2) rfl ?_
          show Ret.new _ = readR K n tx
          unfold readR okB rowD
          rw [if_neg (fun z => z hw), hall, if_neg ht, if_pos]
          refine .inr ?_
          rw [Bool.true_and]
          exact decide_eq_true (by omega)
  · refine ⟨_, pss_cons (ps_expr (kCl K rfl (pe_cl x_asked_wires hr (by decide) (passes_call (takes_of rfl rfl rfl rfl) (fun _ _ _ _ h => h)) (by rfl) (pa_cons (pv 0) pa_nil)))) (pss_never), ?_⟩
    refine sd_seq (sd_dropX (eas_h (ea_one (ed_var rfl))) ⟨n, rfl, hw, rfl⟩ (hE _ ?_))
    unfold readR
    rw [if_pos hw]

theorem c__law_gate (T : Tx K mg)  : Cad CX0 P wld K mg base 1 "_law_gate" S_law_gate := by
  refine cl_of T.d__law_gate sc_law_gate (fun f fd F => F.bindsN fun _ _ _ _ _ _ us hl => match us, hl with | [_, _], _ => rfl) (fun ds r h => by obtain ⟨n, w, rfl, _⟩ := h; rfl) (fun f_ cdv_ A_ outer_ s_ H E M0 ds r hr hs hE => ?_)
  obtain ⟨n, w, rfl, hn, hwl, rfl⟩ := hs
  refine ⟨_, pss_cons (ps_set (i := 2) sc_law_gate.nd rfl (Or.inl rfl) (pe_lst pa_nil))
 (pss_cons (ps_for (passes_of rfl) rfl (pi_str (pe_slice sl_str (pv 1) (po_some pe_int) po_none)) (pg_name (i := 3) sc_law_gate.nd rfl (Or.inl rfl)) (pss_cons (ps_if (PW.pt (pw_or (pt_cmpR op_lt (pe_m1 PySem.F.slot_str_find PySem.F.type_str_find mt_find pe_str (pv 3)) pe_int (nomark _)) (pw_or1 (pt_cmpR op_ge (pe_m1 PySem.F.slot_str_find PySem.F.type_str_find mt_find pe_str (pv 3)) (pv 0) (nomark _))))) (pss_one (ps_ret pe_non)) (pss_nil))
 (pss_one (ps_expr (kBm K rfl (pe_bm PySem.F.plainAttrs_list PySem.F.slot_list_append PySem.F.type_list_append mt_append (pv 2) (pa_cons (pe_m1 PySem.F.slot_str_find PySem.F.type_str_find mt_find pe_str (pv 3)) pa_nil)))))))
 (pss_cons (ps_if (pt_cmpR op_eq (pe_slice sl_str (pv 1) po_none (po_some pe_int)) pe_str (nomark _)) (pss_cons (ps_if (PW.pt (pw_or (pt_cmpR op_ne (pe_callB (cLen K rfl) (by rfl) T.len (by decide +kernel) (pa_cons (pv 2) pa_nil)) pe_int (nomark _)) (pw_or1 (pt_cmpR op_ge (pe_ix (ixL K rfl) (pv 2) pe_int (fun _ _ => rfl)) (pe_ix (ixL K rfl) (pv 2) pe_int (fun _ _ => rfl)) (nomark _))))) (pss_one (ps_ret pe_non)) (pss_nil))
 (pss_one (ps_ret (pe_tup (pa_cons pe_str (pa_cons (pe_ix (ixL K rfl) (pv 2) pe_int (fun _ _ => rfl)) (pa_cons (pe_ix (ixL K rfl) (pv 2) pe_int (fun _ _ => rfl)) pa_nil))))))) (pss_nil))
 (pss_cons (ps_if (PW.pt (pw_or (pt_cmpR op_ne (pe_slice sl_str (pv 1) po_none (po_some pe_int)) pe_str (nomark _)) (pw_or1 (pt_cmpR (opEqD K rfl hr.units) (pv 2) (pe_lst pa_nil) (nomark _))))) (pss_one (ps_ret pe_non)) (pss_nil))
 (pss_cons (ps_for (passes_of rfl) rfl (pi_range2 (by rfl) T.range (pa_cons pe_int (pa_cons (pe_callB (cLen K rfl) (by rfl) T.len (by decide +kernel) (pa_cons (pv 2) pa_nil)) pa_nil))) (pg_name (i := 4) sc_law_gate.nd rfl (Or.inl rfl)) (pss_one (ps_if (PW.pt (pw_or (pt_cmpR op_eq (pe_ix (ixL K rfl) (pv 2) (pv 4) (fun _ _ => rfl)) (pe_ix (ixL K rfl) (pv 2) pe_int (fun _ _ => rfl)) (nomark _)) (pw_or1 (PW.pt (pw_and (pt_cmpR op_gt (pv 4) pe_int (nomark _)) (pw_and1 (pt_cmpR op_le (pe_ix (ixL K rfl) (pv 2) (pv 4) (fun _ _ => rfl)) (pe_ix (ixL K rfl) (pv 2) (pe_op op_sub (pv 4) pe_int) (fun _ _ => rfl)) (nomark _)))))))) (pss_one (ps_ret pe_non)) (pss_nil))))
 (pss_one (ps_ret (pe_tup (pa_cons pe_str (pa_cons (pe_ix (ixL K rfl) (pv 2) pe_int (fun _ _ => rfl)) (pa_cons (pe_callTy (cTup K rfl) (by rfl) T.tuple (by decide +kernel) (pa_cons (pe_slice (slL K rfl) (pv 2) (po_some pe_int) po_none) pa_nil)) pa_nil)))))))))), ?_⟩
  show SD K M0 H _ [.d (.int n), .d (sD w), .u, .u, .u] _
  refine sd_seq (sd_asgO (ds := []) (efs_h (ef_lst ea_nil)) ?_)
  refine sd_seq (sd_forS (cs := w.drop 1) (eds_h (ED.is (ed_slS (lo := some 1) (ed_var rfl) (eo_some ed_int) eo_none (by omega)) (by rw [cutL_from (by decide)]; rfl)))
    (fun i ρ => ∃ x, ρ = [.d (.int n), .d (sD w), .o ((((w.drop 1).take i).map fun c : Nat => (c : Int) - 48).map .int), x, .u] ∧ ∀ c ∈ (w.drop 1).take i, isFig c = true ∧ (c : Int) - 48 < n) ⟨_, rfl, fun c hc => by rw [List.take_zero] at hc; cases hc⟩ (fun i c ρ' hx hp => ?_) (fun ρ' hp => ?_))
  · obtain ⟨x, rfl, hall⟩ := hp
    have hil : i < (w.drop 1).length := (List.getElem?_eq_some_iff.mp hx).1
    have hwd : (w.drop 1).length ≤ w.length := by rw [List.length_drop]; omega
    have hff := find_fig c
    refine sd_seq (sd_if (c := decide ((if isFig c = true then (c : Int) - 48 else -1) < 0) || decide ((if isFig c = true then (c : Int) - 48 else -1) ≥ n)) (ets (et_or (et_test (ed_I0b (ed_find (ed_strL (a := [48, 49, 50, 51]) rfl) (ed_var rfl) hff) ed_int)) fun _ => et_test (ed_I0b (ed_find (ed_strL (a := [48, 49, 50, 51]) rfl) (ed_var rfl) hff) (ed_var rfl)))) (fun h => ?_) (fun h => sd_next ?_))
    · simp only [Bool.or_eq_true, decide_eq_true_eq] at h
      have e : gateOf n w = none := gate_unfit (List.mem_of_getElem? hx) (by
        by_cases hf : isFig c = true
        · rw [if_pos hf] at h
          have := fig_lo hf
          exact .inr (by omega)
        · exact .inl (Bool.eq_false_iff.mpr hf))
      exact sd_ret ed_non (show Ret.val .none = .val (encO (gateOf n w)) by rw [e]; rfl)
    · simp only [Bool.or_eq_false_iff, decide_eq_false_iff_not] at h
      have hf : isFig c = true := by
        cases hq : isFig c with
        | true => rfl
        | false =>
          rw [if_neg (by rw [hq]; decide)] at h
          exact absurd (by decide) h.1
      rw [if_pos hf] at h hff
      refine sd_app (i := 2) rfl (eds_h (ed_find (ed_strL (a := [48, 49, 50, 51]) rfl) (ed_var rfl) hff)) (by rw [List.length_map, List.length_map, List.length_take]; omega) ⟨.d (sD [c]), ?_, ?_⟩
      · rw [List.take_add_one, hx]
        simp only [List.set, Option.toList_some, List.map_append, List.map_cons, List.map_nil]
      · rw [List.take_add_one, hx, Option.toList_some]
        intro d hd
        rcases List.mem_append.mp hd with hd | hd
        · exact hall d hd
        · rw [List.mem_singleton.mp hd]
          exact ⟨hf, by omega⟩
  · obtain ⟨x, rfl, hall⟩ := hp
    rw [List.take_length] at hall ⊢
    show SD K M0 H _ [.d (.int n), .d (sD w), .o ((figs w).map .int), x, .u] _
    have hall2 : (w.drop 1).all isFig = true := List.all_eq_true.mpr fun c hc => (hall c hc).1
    have hb : ∀ x ∈ figs w, 0 ≤ x ∧ x < n := fun x hx => by
      obtain ⟨c, hc, rfl⟩ := List.mem_map.mp hx
      have := fig_lo (hall c hc).1
      exact ⟨by omega, (hall c hc).2⟩
    have hfl : (figs w).length ≤ w.length := by unfold figs; rw [List.length_map, List.length_drop]; omega
    have htake : ∀ {δ : Dn}, δ[1]? = some (some (sD w)) → ED K (tSl rSlS (tVar 1) tNoPart (tPart (tC (.int 1)))) δ (sD (w.take 1)) := fun h => ED.is (ed_slS (hi := some 1) (ed_var h) eo_none (eo_some ed_int) (by omega)) (by rw [cutL_to (by decide)]; rfl)
    have hlen : ∀ {δ : Dn}, δ[2]? = some (some (lint (figs w))) → ED K (tCB (U.rLen K) (tCons (tVar 2) tNil)) δ (.int ((figs w).length : Nat)) := fun h => ED.is (ed_cb (ea_one (ed_var h)) cd_lenL) (by rw [List.length_map])
    have gs := fun ht => gate_swap (n := n) hall2 ht hb
    have go := @gate_other n w
    have gt := fun ht hne => gate_turn (n := n) hall2 ht hne hb
    have gn := fun ht => fun {k} => gate_noturn (n := n) (k := k) hall2 ht hb
    generalize figs w = fs at hfl hb hlen gs go gt gn ⊢
    refine sd_seq (sd_if (ets (et_test (ed_eqL2 (htake rfl) (ed_strL (a := [115]) rfl)))) (fun h => ?_) (fun h => sd_next ?_))
    · have hg := gs (of_decide_eq_true h)
      have len2 : (!decide ((fs.length : Int) = 2)) = false → fs.length = 2 := fun z => by
        simp only [Bool.not_eq_false', decide_eq_true_eq] at z
        omega
      refine sd_seq (sd_if (c := !decide ((fs.length : Int) = 2) || decide (at' fs 0 ≥ at' fs 1)) (ets (et_or (et_test (ed_neI (hlen rfl) ed_int)) fun h2 => et_test (ed_I0b (ed_ixL (ed_var rfl) ed_int (at'_get (l := fs) (by decide) (by rw [len2 h2]; decide))) (ed_ixL (ed_var rfl) ed_int (at'_get (l := fs) (by decide) (by rw [len2 h2]; decide)))))) (fun h => ?_) (fun h => sd_next ?_))
      · have e : gateOf n w = none := by
          rw [hg, if_neg]
          rintro ⟨h1, h2⟩
          simp only [Bool.or_eq_true, Bool.not_eq_true', decide_eq_true_eq, decide_eq_false_iff_not] at h
          omega
        exact sd_ret ed_non (show Ret.val .none = .val (encO (gateOf n w)) by rw [e]; rfl)
      · simp only [Bool.or_eq_false_iff, Bool.not_eq_false', decide_eq_true_eq, decide_eq_false_iff_not] at h
        have h2 : fs.length = 2 := by omega
        rw [if_pos ⟨h2, by omega⟩] at hg
        refine sd_ret (ed_tup (ea_cons ed_str (ea_cons (ed_ixL (ed_var rfl) ed_int (at'_get (l := fs) (by decide) (by omega))) (ea_one (ed_ixL (ed_var rfl) ed_int (at'_get (l := fs) (by decide) (by omega))))))) ?_
        show Ret.val (encG (.swap (at' fs 0) (at' fs 1))) = .val (encO (gateOf n w))
        rw [hg]
        rfl
    · have hns := of_decide_eq_false h
      refine sd_seq (sd_if (ets (et_or (et_test (ed_neL2 (htake rfl) (ed_strL (a := [116]) rfl))) fun _ => et_test (ed_eqL (a := fs) (b := []) (ed_var rfl) (EF.ed (ef_lst ea_nil))))) (fun h => ?_) (fun h => sd_next ?_))
      · have e : gateOf n w = none := by
          refine go hns ?_
          simp only [Bool.or_eq_true, Bool.not_eq_true', decide_eq_true_eq, decide_eq_false_iff_not] at h
          exact h
        exact sd_ret ed_non (show Ret.val .none = .val (encO (gateOf n w)) by rw [e]; rfl)
      · simp only [Bool.or_eq_false_iff, Bool.not_eq_false', decide_eq_true_eq, decide_eq_false_iff_not] at h
        obtain ⟨ht, hne⟩ := h
        have hpos : 0 < fs.length := List.length_pos_iff.mpr hne
        refine sd_seq (sd_forR (lo := 1) (n := (fs.length : Int)) (wis_2 (eas_f (ea_cons ed_int (ea_one (hlen rfl))) rfl) (by omega)) (fun i ρ => ∃ y, ρ = [.d (.int n), .d (sD w), .o (fs.map .int), x, y] ∧ ∀ k : Nat, 1 ≤ k → k < 1 + i → turnAt fs k) ⟨_, rfl, fun k h1 h2 => by omega⟩ (fun i ρ' hi hp => ?_) (fun ρ' hp => ?_))
        · obtain ⟨y, rfl, hk⟩ := hp
          have hi2 : 1 + i < fs.length := by omega
          have hat : at' fs (1 + (i : Int)) = at' fs ((1 + i : Nat) : Int) := by rw [Int.natCast_add]; rfl
          refine sd_if (c := decide (at' fs (1 + (i : Int)) = at' fs 0) || (decide (1 + (i : Int) > 1) && decide (at' fs (1 + (i : Int)) ≤ at' fs (1 + (i : Int) - 1)))) (ets (et_or (et_test (ed_eqI (ed_ixL (ed_var rfl) (ed_var rfl) (at'_get (l := fs) (by omega) (by omega))) (ed_ixL (ed_var rfl) ed_int (at'_get (l := fs) (by decide) (by omega))))) fun _ => et_and (et_test (ed_I0b (ed_var rfl) ed_int)) fun _ =>
            et_test (ed_I0b (ed_ixL (ed_var rfl) (ed_var rfl) (at'_get (l := fs) (by omega) (by omega))) (ed_ixL (ed_var rfl) (ed_I0i (ed_var rfl) ed_int) (at'_get (l := fs) (by omega) (by omega)))))) (fun h => ?_) (fun h => sd_next ⟨_, rfl, fun k h1 h2 => ?_⟩)
          · simp only [Bool.or_eq_true, Bool.and_eq_true, decide_eq_true_eq] at h
            have e : gateOf n w = none := by
              refine gn ht (k := 1 + i) (by omega) hi2 ?_
              rintro ⟨q1, q2⟩
              rw [Int.natCast_add] at q1 q2
              rcases h with h | ⟨h1, h2⟩
              · exact q1 h
              · have := q2 h1
                exact absurd this (Int.not_lt.mpr h2)
            exact sd_ret ed_non (show Ret.val .none = .val (encO (gateOf n w)) by rw [e]; rfl)
          · simp only [Bool.or_eq_false_iff, Bool.and_eq_false_iff, decide_eq_false_iff_not] at h
            by_cases c : k < 1 + i
            · exact hk k h1 c
            · obtain rfl : k = 1 + i := by omega
              unfold turnAt
              rw [Int.natCast_add]
              refine ⟨h.1, fun q => ?_⟩
              rcases h.2 with z | z
              · exact absurd q z
              · exact Int.not_le.mp z
        · obtain ⟨y, rfl, hk⟩ := hp
          have e := gt ht hne fun k h1 h2 => hk k h1 (by omega)
          refine sd_ret (ED.is (ed_tup (ea_cons ed_str (ea_cons (ed_ixL (ed_var rfl) ed_int (at'_get (l := fs) (by decide) (by omega))) (ea_one (ed_cb (ea_one (EF.ed (EF.is (ef_slL (lo := some 1) (ed_var rfl) (eo_some ed_int) eo_none) (cutD_from (by decide))))) cd_tupL))))) (b := encG (.turn (at' fs 0) (fs.drop 1))) ?_) ?_
          · rw [← List.map_drop]
            rfl
          · show Ret.val (encG (.turn (at' fs 0) (fs.drop 1))) = .val (encO (gateOf n w))
            rw [e]
            rfl
theorem c__law_read (T : Tx K mg) (c__law_gate : Cad CX0 P wld K mg base 1 "_law_gate" S_law_gate) : Cad CX0 P wld K mg base 2 "_law_read" S_law_read := by
  refine cl_of T.d__law_read sc_law_read (fun f fd F => F.bindsN fun _ _ _ _ _ _ us hl => match us, hl with | [_, _], _ => rfl) (fun ds r h => by obtain ⟨n, tx, rfl, _⟩ := h; rfl) (fun f_ cdv_ A_ outer_ s_ H E M0 ds r hr hs hE => ?_)
  obtain ⟨n, tx, rfl, hn, hl, rfl⟩ := hs
  refine ⟨_, pss_cons (ps_if (pt_cmpR op_eq (pv 1) pe_str (nomark _)) (pss_one (ps_ret (pe_lst pa_nil))) (pss_nil))
 (pss_cons (ps_setLc (i := 2) (own := [("word", 3)]) (g := gName 3) rfl sc_law_read.nd rfl rfl (sw_true rfl rfl rfl (by decide +kernel)) (piL K rfl (pe_split (pv 1) pe_str)) (blkOk_by (own := [("word", 3)]) (N := nm_law_read) (sc := defScope s_law_read) (by decide +kernel)) (fun _ _ _ _ _ => pg_name (i := 3) sc_law_read.nd rfl (Or.inl rfl)) (fun _ _ _ _ _ => pts_nil) (fun _ _ _ _ _ => (kCl K rfl (pe_cl c__law_gate hr (by decide) pass0 (by rfl) (pa_cons (pv 0) (pa_cons (pv 3) pa_nil))))))
 (pss_cons (ps_if (PW.pt (pw_or (pt_cmpR (op_inD (units65 hr)) pe_non (pv 2) (by rfl)) (pw_or1 (pt_cmpR op_gt (pe_callB (cLen K rfl) (by rfl) T.len (by decide +kernel) (pa_cons (pv 2) pa_nil)) pe_int (nomark _))))) (pss_one (ps_ret pe_non)) (pss_nil))
 (pss_one (ps_ret (pv 2))))), ?_⟩
  have hb := wordsL_bound tx
  show SD K M0 H _ [.d (.int n), .d (sD tx), .u, .u] _
  refine sd_seq (sd_if (ets (et_test (ed_eqL2 (ed_var rfl) (ed_strL (a := []) rfl)))) (fun h => ?_) (fun h => sd_next ?_))
  · have ht : tx = [] := of_decide_eq_true h
    subst ht
    exact sd_retF (ef_lst ea_nil) rfl
  · have ht : ¬ tx = [] := of_decide_eq_false h
    refine sd_seq (sd_asgO (ds := (wordsL tx).map fun w => encO (gateOf n w)) (efs_h (ef_lc1 (enc := fun w => sD w) (xs := wordsL tx) (G := fun w => encO (gateOf n w)) (EF.ed (EF.is (ef_split (ed_var rfl) (ed_strL (a := [32]) rfl) (by decide +kernel) (by rw [ofL_len]; omega)) (words_split tx))) (by omega) fun w hwm => ed_call (ea_cons (ed_var rfl) (ea_one (ed_var rfl))) ⟨n, w, rfl, hn, by have := hb.2 w hwm; omega, rfl⟩)) ?_)
    refine sd_seq (sd_if (c := !okB n tx) (ets (ET.is (et_or (et_test (ed_op ed_non (ed_var rfl) (rd_inD (a := .none) (ds := (wordsL tx).map fun w => encO (gateOf n w)) rfl ((shp_rowD _).shaped (by decide))))) fun _ => et_test (ed_I0b (ED.is (ed_cb (ea_one (ed_var rfl)) cd_lenL) (by rw [List.length_map])) ed_int)) ?_)) (fun h => ?_) (fun h => sd_next ?_))
    · rw [none_in]
      unfold okB
      rw [Bool.not_and]
      congr 1
      rw [← decide_not, decide_eq_decide]
      omega
    · have hk : okB n tx = false := by simpa using h
      refine sd_ret ed_non ?_
      show Ret.val .none = if tx = [] ∨ okB n tx = true then .new (rowD n tx) else .val .none
      rw [if_neg]
      rintro (z | z)
      · exact ht z
      · rw [hk] at z
        cases z
    · have hk : okB n tx = true := by simpa using h
      refine sd_retO (i := 2) rfl ?_
      show Ret.new _ = if tx = [] ∨ okB n tx = true then .new (rowD n tx) else .val .none
      rw [if_pos (.inr hk)]
      unfold rowD
      rw [if_neg ht]
theorem c__law_word_by (T : Tx K mg) (c__law_cell_at : Cad CX0 P wld K mg base 1 "_law_cell_at" S_law_cell_at) (c__law_draw : Cad CX0 P wld K mg base 1 "_law_draw" S_law_draw) : Cad CX0 P wld K mg base 2 "_law_word_by" S_law_word_by := by
  refine cl_of T.d__law_word_by sc_law_word_by (fun f fd F => F.bindsN fun _ _ _ _ _ _ us hl => match us, hl with | [_, _, _], _ => rfl) (fun ds r h => by obtain ⟨ns, k, n, rfl, _⟩ := h; rfl) (fun f_ cdv_ A_ outer_ s_ H E M0 ds r hr hs hE => ?_)
  obtain ⟨ns, k, n, rfl, hk, hn, rfl⟩ := hs
  refine ⟨_, pss_cons (ps_set (i := 3) sc_law_word_by.nd rfl (Or.inr rfl) (kCl K rfl (pe_cl c__law_cell_at hr (by decide) pass0 (by rfl) (pa_cons (pv 0) (pa_cons (pe_op op_add pe_int (pv 1)) pa_nil)))))
 (pss_cons (ps_set (i := 4) sc_law_word_by.nd rfl (Or.inr rfl) (pe_lc (own := [("j", 5)]) (g := gName 5) rfl sc_law_word_by.nd (pi_range1 (by rfl) T.range (pa_cons (pe_op op_add pe_int (pe_op op_mod (pv 3) pe_int)) pa_nil)) (blkOk_by (own := [("j", 5)]) (N := nm_law_word_by) (sc := defScope s_law_word_by) (by decide +kernel)) (fun _ _ _ _ _ => pg_name (i := 5) sc_law_word_by.nd rfl (Or.inl rfl)) (fun _ _ _ _ _ => pts_nil) (fun _ _ _ _ _ => (kCl K rfl (pe_cl c__law_draw hr (by decide) pass0 (by rfl) (pa_cons (pv 3) (pa_cons (pv 5) (pa_cons (pv 2) pa_nil))))))))
 (pss_cons (ps_if (pt_cmpR op_gt (pe_op op_mod (pe_op op_fdiv (pv 3) pe_int) pe_int) pe_int (nomark _)) (pss_one (ps_set (i := 4) sc_law_word_by.nd rfl (Or.inr rfl) (pe_op op_cat (pe_lst (pa_cons (pe_ix (ixL K rfl) (pv 4) pe_int (fun _ _ => rfl)) pa_nil)) (pe_sortedSet rfl (by rfl) (by rfl) T.sorted (by rfl) T.set (pe_lc (own := [("one", 6)]) (g := gName 6) rfl sc_law_word_by.nd (piL K rfl (pv 4)) (blkOk_by (own := [("one", 6)]) (N := nm_law_word_by) (sc := defScope s_law_word_by) (by decide +kernel)) (fun _ _ _ _ _ => pg_name (i := 6) sc_law_word_by.nd rfl (Or.inl rfl)) (fun _ _ _ _ _ => (pts_one (pt_cmpR op_ne (pv 6) (pe_ix (ixL K rfl) (pv 4) pe_int (fun _ _ => rfl)) (nomark _)))) (fun _ _ _ _ _ => (pv 6))))))) (pss_nil))
 (pss_cons (ps_if (pt_cmpR op_eq (pe_op op_mod (pe_op op_fdiv (pv 3) pe_int) pe_int) pe_int (nomark _)) (pss_cons (ps_set (i := 4) sc_law_word_by.nd rfl (Or.inr rfl) (pe_sortedSet rfl (by rfl) (by rfl) T.sorted (by rfl) T.set (pe_lst (pa_cons (pe_ix (ixL K rfl) (pv 4) pe_int (fun _ _ => rfl)) (pa_cons (pe_op op_mod (pe_op op_fdiv (pv 3) pe_int) (pv 2)) pa_nil)))))
 (pss_one (ps_ret (pe_op op_add_str pe_str (pe_join pe_str (pe_lc (own := [("one", 6)]) (g := gName 6) rfl sc_law_word_by.nd (piL K rfl (pv 4)) (blkOk_by (own := [("one", 6)]) (N := nm_law_word_by) (sc := defScope s_law_word_by) (by decide +kernel)) (fun _ _ _ _ _ => pg_name (i := 6) sc_law_word_by.nd rfl (Or.inl rfl)) (fun _ _ _ _ _ => pts_nil) (fun _ _ _ _ _ => (pe_callTy call_str_int (by rfl) T.str (by decide +kernel) (pa_cons (pv 6) pa_nil))))))))) (pss_nil))
 (pss_one (ps_ret (pe_op op_add_str (pe_ix (ixL K rfl) (pe_lst (pa_cons pe_str (pa_cons pe_str (pa_cons pe_str (pa_cons pe_str (pa_cons pe_str pa_nil)))))) (pe_op op_mod (pe_op op_fdiv (pv 3) pe_int) pe_int) (fun _ _ => rfl)) (pe_join pe_str (pe_lc (own := [("one", 6)]) (g := gName 6) rfl sc_law_word_by.nd (piL K rfl (pv 4)) (blkOk_by (own := [("one", 6)]) (N := nm_law_word_by) (sc := defScope s_law_word_by) (by decide +kernel)) (fun _ _ _ _ _ => pg_name (i := 6) sc_law_word_by.nd rfl (Or.inl rfl)) (fun _ _ _ _ _ => pts_nil) (fun _ _ _ _ _ => (pe_callTy call_str_int (by rfl) T.str (by decide +kernel) (pa_cons (pv 6) pa_nil))))))))))), ?_⟩
  show SD K M0 H _ [.d (scrD ns), .d (.int k), .d (.int n), .u, .u, .u, .u] _
  obtain ⟨hn1, hn4⟩ := id hn
  refine sd_seq (sd_asg (eds_h (ed_call (ea_cons (ed_var rfl) (ea_one (ed_I0i ed_int (ed_var rfl)))) ⟨ns, 1 + k, rfl, by omega, rfl⟩)) ?_)
  generalize cellv ns (1 + k) = c
  have h4 := Int.emod_nonneg c (show (4 : Int) ≠ 0 by decide)
  have h5 := Int.emod_lt_of_pos c (show (0 : Int) < 4 by decide)
  have hl1 := figs1_len c n
  refine sd_seq (sd_asg (d := lint (figs1 c n)) (eds_h (EF.ed (EF.is (ef_lcR1' (n := 1 + c % 4) (G := fun j => .int (drawv c j n)) (ea_one (ed_I0i ed_int (ed_Ii (ed_var rfl) ed_int (by decide)))) (by omega) fun x hx => ed_call (ea_cons (ed_var rfl) (ea_cons (ed_var rfl) (ea_one (ed_var rfl)))) ⟨c, x, n, rfl, by omega, rfl⟩) (by unfold figs1; rw [List.map_map]; rfl)))) ?_)
  have hrng := figs2_rng (c := c) (n := n) (by omega)
  have hlen := figs2_len c n
  refine sd_cut (fun ρ => ρ = [.d (scrD ns), .d (.int k), .d (.int n), .d (.int c), .d (lint (figs2 c n)), .u, .u]) (sd_if (ets (et_test (ed_I0b (ed_Ii (ed_Ii (ed_var rfl) ed_int (cdk (by decide))) ed_int (by decide)) ed_int))) (fun h => ?_) (fun h => sd_next ?_)) (fun ρ' hp => ?_)
  · have h1 := of_decide_eq_true h
    have hat : L2.atI ((figs1 c n).map PyData.int) 0 = some (.int (at' (figs1 c n) 0)) := at'_get (l := figs1 c n) (by decide) (by omega)
    have hsl := srt_len (l := (figs1 c n).filter fun x => !decide (x = at' (figs1 c n) 0))
    have hfl := List.length_filter_le (fun x => !decide (x = at' (figs1 c n) 0)) (figs1 c n)
    refine sd_asg (d := lint (figs2 c n)) (eds_h (EF.ed (EF.is (ef_cat (EF.ed (ef_lst (ea_one (ed_ixL (ed_var rfl) ed_int hat)))) (EF.ed (ef_srt (ns := (figs1 c n).filter fun x => !decide (x = at' (figs1 c n) 0)) (ms := srt ((figs1 c n).filter fun x => !decide (x = at' (figs1 c n) 0)))
      (EF.ed (ef_lc (enc := .int) (xs := figs1 c n) (F := fun x => !decide (x = at' (figs1 c n) 0)) (G := .int) (ed_var rfl) (by omega) (fun x hx => et_test (ed_neI (ed_var rfl) (ed_ixL (ed_var rfl) ed_int hat))) (fun x hx _ => ed_var rfl))) (by omega) srt_ris (fun _ => mem_srt))) (by rw [List.length_map]; show 1 + _ ≤ _; omega)) ?_))) rfl
    unfold figs2
    rw [if_pos (show 0 < c / 4 % 4 from h1)]
    rfl
  · have h1 := of_decide_eq_false h
    unfold figs2
    rw [if_neg (show ¬ 0 < c / 4 % 4 from h1)]
    rfl
  · subst hp
    have hst : ∀ {x : Int}, 0 ≤ x ∧ x < 4 → CD K (fun xs H Q => ∃ i : Int, xs = [.int i] ∧ i.natAbs.log2 < 1920 ∧ Q (.str (Str.ofString (toString i))) H) [.int x] (sD [dg x]) := fun hx => cd_strI (by omega)
    have hw : wordBy c n = if c / 16 % 4 = 1 then 115 :: (srt [at' (figs2 c n) 0, c / 64 % n]).map dg else headW (c / 64 % 5) ++ (figs2 c n).map dg := rfl
    rw [hw]
    generalize figs2 c n = fs at hrng hlen
    have hat : L2.atI (fs.map PyData.int) 0 = some (.int (at' fs 0)) := at'_get (l := fs) (by decide) (by omega)
    refine sd_seq (sd_if (ets (et_test (ed_eqI (ed_Ii (ed_Ii (ed_var rfl) ed_int (cdk (by decide))) ed_int (by decide)) ed_int))) (fun h => ?_) (fun h => sd_next ?_))
    · have h1 := of_decide_eq_true h
      rw [if_pos h1]
      have hm0 := hrng _ (at'_mem (l := fs) (i := 0) (by decide) (by omega))
      have hc0 : 0 ≤ c / 64 % n := Int.emod_nonneg _ (by omega)
      have hc1 : c / 64 % n < n := Int.emod_lt_of_pos _ (by omega)
      refine sd_seq (sd_asg (d := lint (srt [at' fs 0, c / 64 % n])) (eds_h (EF.ed (ef_srt (ns := [at' fs 0, c / 64 % n]) (EF.ed (ef_lst (ea_cons (ed_ixL (ed_var rfl) ed_int hat) (ea_one (ed_Ii (ed_Ii (ed_var rfl) ed_int (cdk (by decide))) (ed_var rfl) (by omega)))))) (by show 2 < 64; decide) srt_ris (fun _ => mem_srt)))) ?_)
      have hr2 : ∀ x ∈ srt [at' fs 0, c / 64 % n], 0 ≤ x ∧ x < 4 := fun x hx => by
        have := mem_srt.mp hx
        simp only [List.mem_cons, List.not_mem_nil, or_false] at this
        omega
      have hl2 : (srt [at' fs 0, c / 64 % n]).length ≤ 2 := srt_len
      generalize srt [at' fs 0, c / 64 % n] = gs at hr2 hl2 ⊢
      have hjs := jsum gs
      refine sd_ret (ED.is (ed_addS (a := [115]) (b := gs.map dg) (ed_strL rfl) (ED.is (ed_join (a := []) (ps := gs.map fun x => [dg x]) (ed_strL rfl)
        (EF.ed (EF.is (ef_lc1 (enc := .int) (xs := gs) (G := fun x => sD [dg x]) (ed_var rfl) (by omega) fun x hx => ed_cb (ea_one (ed_var rfl)) (hst (hr2 x hx))) (by rw [List.map_map]; rfl))) ?_) (by rw [joinL_nil, flat_single])) ?_) rfl) rfl
      · show _ + _ * 0 ≤ _
        omega
      · rw [List.length_map]
        show 1 + _ ≤ _
        omega
    · have h1 := of_decide_eq_false h
      rw [if_neg h1]
      have hjs := jsum fs
      have hk5 : 0 ≤ c / 64 % 5 ∧ c / 64 % 5 < 5 := ⟨Int.emod_nonneg _ (by decide), Int.emod_lt_of_pos _ (by decide)⟩
      have hhl := headW_len (c / 64 % 5)
      refine sd_ret (ed_addS (a := headW (c / 64 % 5)) (b := fs.map dg) (ed_ixL (EF.ed (ef_lst (ea_cons (ed_strL (a := [116]) rfl) (ea_cons (ed_strL (a := [116]) rfl) (ea_cons (ed_strL (a := [115]) rfl) (ea_cons (ed_strL (a := [116]) rfl) (ea_one (ed_strL (a := []) rfl)))))))) (ed_Ii (ed_Ii (ed_var rfl) ed_int (cdk (by decide))) ed_int (by decide)) (head_at hk5))
        (ED.is (ed_join (a := []) (ps := fs.map fun x => [dg x]) (ed_strL rfl)
        (EF.ed (EF.is (ef_lc1 (enc := .int) (xs := fs) (G := fun x => sD [dg x]) (ed_var rfl) (by omega) fun x hx => ed_cb (ea_one (ed_var rfl)) (hst (by have := hrng x hx; omega))) (by rw [List.map_map]; rfl))) ?_) (by rw [joinL_nil, flat_single])) ?_) rfl
      · show _ + _ * 0 ≤ _
        omega
      · rw [List.length_map]
        omega
theorem c__law_told (T : Tx K mg) (c_read : Cad (L2.CX P wld) P wld K mg base 4 "read" (S_readX K)) (c__law_word_of : WordDef P wld K mg base "_law_word_of" (WordW K)) : Cad CX0 P wld K mg base 5 "_law_told" S_law_toldT := by
  refine cl_of T.d__law_told sc_law_told (fun f fd F => F.bindsN fun _ _ _ _ _ _ us hl => match us, hl with | [_, _], _ => rfl) (fun ds r h => by obtain ⟨n, tx, rfl, _⟩ := h; rfl) (fun f_ cdv_ A_ outer_ s_ H E M0 ds r hr hs hE => ?_)
  obtain ⟨n, tx, rfl, hl, hre⟩ := hs
  refine ⟨_, pss_one (ps_try_as (i := 2) (tb := fun W => tRet (tCallS (SpD K (S_readX K)) (WE W) (tCons (tVar 0) (tCons (tVar 1) tNil)))) (ts := tsWord (WordW K) 2) (Wout := fun _ _ _ _ => False) rfl rfl sc_law_told.nd rfl rfl ⟨rfl, by decide, .inl T.g_WireError⟩ takes0 (fun W pn xe tk _ => pss_one (ps_ret (pe_clS c_read hr (by decide) (fun σ => passAt tk σ) (by rfl) (pa_cons (pv 0) (pa_cons (pv 1) pa_nil))))) (fun a oe cls d pn hz hf => pss_one (ps_ret (pe_word c__law_word_of (Nat.lt_of_le_of_lt (Nat.le_trans (Nat.le_add_right _ _) (Nat.le_add_right _ _)) hr.dp) hz hf (by rfl) (pa_cons (pv 2) pa_nil))))), ?_⟩
  show SD K M0 H _ [.d (.int n), .d (sD tx), .u] _
  refine sd_told (S := S_readX K) (W := WordW K) (as := [.int n, sD tx]) (rr := readR K n tx) (eas_h (ea_cons (ed_var rfl) (ea_one (ed_var rfl)))) ⟨n, tx, rfl, hl, rfl⟩ (by show 2 < 3; decide) (fun d h => ?_) (fun ds h => ?_) (fun C h => ?_)
  · unfold readR at h
    by_cases c : ¬ WOk n
    · rw [if_pos c] at h; cases h
    · rw [if_neg c] at h
      by_cases c2 : tx = [] ∨ okB n tx = true
      · rw [if_pos c2] at h; cases h
      · rw [if_neg c2] at h; cases h
  · unfold readR at h
    by_cases c : ¬ WOk n
    · rw [if_pos c] at h; cases h
    · rw [if_neg c] at h hre
      by_cases c2 : tx = [] ∨ okB n tx = true
      · rw [if_pos c2] at h hre
        rw [← h]
        exact hre.symm
      · rw [if_neg c2] at h; cases h
  · unfold readR at h
    by_cases c : ¬ WOk n
    · rw [if_pos c] at h hre
      cases h
      exact ⟨(exB_ok T.ex "NoWires" (by decide +kernel)).wm, "wires", ⟨"NoWires", by decide +kernel, rfl, by decide +kernel⟩, hre.symm⟩
    · rw [if_neg c] at h hre
      by_cases c2 : tx = [] ∨ okB n tx = true
      · rw [if_pos c2] at h; cases h
      · rw [if_neg c2] at h hre
        cases h
        exact ⟨(exB_ok T.ex "NoNote" (by decide +kernel)).wm, "note", ⟨"NoNote", by decide +kernel, rfl, by decide +kernel⟩, hre.symm⟩
theorem c_law (T : Tx K mg) (c__law_read : Cad CX0 P wld K mg base 2 "_law_read" S_law_read) (c__law_told : Cad CX0 P wld K mg base 5 "_law_told" S_law_toldT) (c__law_cell_at : Cad CX0 P wld K mg base 1 "_law_cell_at" S_law_cell_at) (c__law_word_by : Cad CX0 P wld K mg base 2 "_law_word_by" S_law_word_by) {fL : Addr} {fdL : FuncData} (F : FunD K "law" "law" (defArgs slaw) (defBody slaw) (defScope slaw) [] [] fL fdL) : FnOk P wld K mg base CX0 6 fL fdL ["script"] (SpD K S_law) := by
  refine fn_ofD F sclaw (fun ds r h => by obtain ⟨ns, rfl, _⟩ := h; rfl) (fun f_ cdv_ A_ outer_ s_ H E M0 ds r hr hs hE => ?_)
  obtain ⟨ns, rfl, rfl⟩ := hs
  refine ⟨_, pss_cons (ps_set (i := 1) sclaw.nd rfl (Or.inr rfl) (pe_op op_add pe_int (pe_op op_mod (kCl K rfl (pe_cl c__law_cell_at hr (by decide) pass0 (by rfl) (pa_cons (pv 0) (pa_cons pe_int pa_nil)))) pe_int)))
 (pss_cons (ps_set (i := 2) sclaw.nd rfl (Or.inl rfl) (pe_join pe_str (pe_lc (own := [("k", 3)]) (g := gName 3) rfl sclaw.nd (pi_range1 (by rfl) T.range (pa_cons (pe_op op_mod (pe_op op_fdiv (kCl K rfl (pe_cl c__law_cell_at hr (by decide) pass0 (by rfl) (pa_cons (pv 0) (pa_cons pe_int pa_nil)))) pe_int) pe_int) pa_nil)) (blkOk_by (own := [("k", 3)]) (N := nmlaw) (sc := defScope slaw) (by decide +kernel)) (fun _ _ _ _ _ => pg_name (i := 3) sclaw.nd rfl (Or.inl rfl)) (fun _ _ _ _ _ => pts_nil) (fun _ _ _ _ _ => (kCl K rfl (pe_cl c__law_word_by hr (by decide) pass0 (by rfl) (pa_cons (pv 0) (pa_cons (pv 3) (pa_cons (pv 1) pa_nil)))))))))
 (pss_cons (ps_set (i := 4) sclaw.nd rfl (Or.inl rfl) (pe_op op_mod (kCl K rfl (pe_cl c__law_cell_at hr (by decide) pass0 (by rfl) (pa_cons (pv 0) (pa_cons pe_int pa_nil)))) pe_int))
 (pss_cons (ps_set (i := 5) sclaw.nd rfl (Or.inl rfl) (pe_op op_mod (kCl K rfl (pe_cl c__law_cell_at hr (by decide) pass0 (by rfl) (pa_cons (pv 0) (pa_cons pe_int pa_nil)))) (pe_op op_add (pe_callB (cLen K rfl) (by rfl) T.len (by decide +kernel) (pa_cons (pv 2) pa_nil)) pe_int)))
 (pss_cons (ps_set (i := 6) sclaw.nd rfl (Or.inl rfl) (pe_lst (pa_cons pe_str (pa_cons pe_str (pa_cons pe_str (pa_cons pe_str (pa_cons pe_str (pa_cons pe_str (pa_cons pe_str (pa_cons pe_str (pa_cons pe_str (pa_cons pe_str (pa_cons pe_str (pa_cons pe_str (pa_cons pe_str (pa_cons pe_str (pa_cons pe_str (pa_cons pe_str pa_nil))))))))))))))))))
 (pss_cons (ps_set (i := 7) sclaw.nd rfl (Or.inl rfl) (pe_ix (ixL K rfl) (pv 6) (pe_op op_mod (kCl K rfl (pe_cl c__law_cell_at hr (by decide) pass0 (by rfl) (pa_cons (pv 0) (pa_cons pe_int pa_nil)))) pe_int) (fun _ _ => rfl)))
 (pss_cons (ps_if (PW.pt (pw_or (pt_cmpR op_eq (pv 4) pe_int (nomark _)) (pw_or1 (pt_cmpR op_eq (pv 4) pe_int (nomark _))))) (pss_one (ps_set (i := 2) sclaw.nd rfl (Or.inl rfl) (pe_op op_add_str (pe_op op_add_str (pe_slice sl_str (pv 2) po_none (po_some (pv 5))) (pv 7)) (pe_slice sl_str (pv 2) (po_some (pv 5)) po_none)))) (pss_nil))
 (pss_cons (ps_if (pt_cmpR op_eq (pv 4) pe_int (nomark _)) (pss_one (ps_set (i := 2) sclaw.nd rfl (Or.inl rfl) (pe_op op_add_str (pe_slice sl_str (pv 2) po_none (po_some (pv 5))) (pe_slice sl_str (pv 2) (po_some (pe_op op_add (pv 5) pe_int)) po_none)))) (pss_nil))
 (pss_cons (ps_if (pt_cmpR op_eq (pv 4) pe_int (nomark _)) (pss_one (ps_set (i := 2) sclaw.nd rfl (Or.inl rfl) (pe_op op_add_str (pe_op op_add_str (pe_slice sl_str (pv 2) po_none (po_some (pv 5))) (pv 7)) (pe_slice sl_str (pv 2) (po_some (pe_op op_add (pv 5) pe_int)) po_none)))) (pss_nil))
 (pss_cons (ps_if (pt_cmpR op_eq (pe_op op_mod (kCl K rfl (pe_cl c__law_cell_at hr (by decide) pass0 (by rfl) (pa_cons (pv 0) (pa_cons pe_int pa_nil)))) pe_int) pe_int (nomark _)) (pss_one (ps_set (i := 2) sclaw.nd rfl (Or.inl rfl) (pe_op op_add_str pe_str (pe_op op_rep_str pe_str (pe_op op_add pe_int (pe_op op_mod (pe_op op_fdiv (kCl K rfl (pe_cl c__law_cell_at hr (by decide) pass0 (by rfl) (pa_cons (pv 0) (pa_cons pe_int pa_nil)))) pe_int) pe_int)))))) (pss_nil))
 (pss_cons (ps_if (pt_cmpR op_eq (pe_op op_mod (kCl K rfl (pe_cl c__law_cell_at hr (by decide) pass0 (by rfl) (pa_cons (pv 0) (pa_cons pe_int pa_nil)))) pe_int) pe_int (nomark _)) (pss_cons (ps_set (i := 8) sclaw.nd rfl (Or.inl rfl) (pe_op op_mod (kCl K rfl (pe_cl c__law_cell_at hr (by decide) pass0 (by rfl) (pa_cons (pv 0) (pa_cons pe_int pa_nil)))) (pe_op op_pow pe_int pe_int)))
 (pss_one (ps_ret (pe_cmpR (opEqD K rfl hr.units) (kCl K rfl (pe_cl c__law_told hr (by decide) pass0 (by rfl) (pa_cons (pe_ix (ixL K rfl) (pe_lst (pa_cons pe_int (pa_cons pe_int (pa_cons (pe_op op_sub pe_int (pv 8)) (pa_cons (pe_op op_add pe_int (pv 8)) pa_nil))))) (pe_op op_mod (pe_op op_fdiv (kCl K rfl (pe_cl c__law_cell_at hr (by decide) pass0 (by rfl) (pa_cons (pv 0) (pa_cons pe_int pa_nil)))) pe_int) pe_int) (fun _ _ => rfl)) (pa_cons (pv 2) pa_nil)))) pe_str (nomark _))))) (pss_nil))
 (pss_cons (ps_set (i := 9) sclaw.nd rfl (Or.inl rfl) (kCl K rfl (pe_cl c__law_read hr (by decide) pass0 (by rfl) (pa_cons (pv 1) (pa_cons (pv 2) pa_nil)))))
 (pss_cons (ps_set (i := 10) sclaw.nd rfl (Or.inl rfl) (kCl K rfl (pe_cl c__law_told hr (by decide) pass0 (by rfl) (pa_cons (pv 1) (pa_cons (pv 2) pa_nil)))))
 (pss_cons (ps_if (pt_cmpR op_isN (pv 9) pe_non (nomark _)) (pss_one (ps_ret (pe_cmpR (opEqD K rfl hr.units) (pv 10) pe_str (nomark _)))) (pss_nil))
 (pss_one (ps_ret (pe_and (pe_callB (cIsi K rfl) (by rfl) T.isinstance (by decide +kernel) (pa_cons (pv 10) (pa_cons (pe_bltn (v := .ty "list") (by rfl) T.list (by decide +kernel) rfl) pa_nil))) (pe_one (pe_cmpR (opEqD K rfl hr.units) (pv 10) (pv 9) (nomark _))))))))))))))))))), ?_⟩
  show SD K M0 H _ [.d (scrD ns), .u, .u, .u, .u, .u, .u, .u, .u, .u, .u] _
  have hcell : ∀ k : Int, 0 ≤ k → S_law_cell_at [scrD ns, .int k] (.val (.int (cellv ns k))) := fun k hk => ⟨ns, k, rfl, hk, rfl⟩
  have hw : WOk (1 + cellv ns 0 % 4) := wires_ok _
  refine sd_seq (sd_asg (eds_h (ed_I0i ed_int (ed_Ii (ed_call (ea_cons (ed_var rfl) (ea_one ed_int)) (hcell 0 (by decide))) ed_int (by decide)))) ?_)
  generalize (1 + cellv ns 0 % 4 : Int) = w at hw ⊢
  have hq0 : 0 ≤ cellv ns 0 / 4 % 5 := Int.emod_nonneg _ (by decide)
  have hq1 : cellv ns 0 / 4 % 5 < 5 := Int.emod_lt_of_pos _ (by decide)
  have hps : ∀ p ∈ (irg 0 (cellv ns 0 / 4 % 5)).map fun k => wordBy (cellv ns (1 + k)) w, p.length ≤ 6 := fun p hp => by
    obtain ⟨k, _, rfl⟩ := List.mem_map.mp hp
    exact wordBy_len _ _
  have hpl : ((irg 0 (cellv ns 0 / 4 % 5)).map fun k => wordBy (cellv ns (1 + k)) w).length ≤ 4 := by
    rw [List.length_map, irg_length]
    omega
  refine sd_seq (sd_asg (eds_h (ed_join (a := [32]) (ps := (irg 0 (cellv ns 0 / 4 % 5)).map fun k => wordBy (cellv ns (1 + k)) w) (ed_strL rfl) (EF.ed (EF.is (ef_lcR1' (n := cellv ns 0 / 4 % 5) (G := fun k => sD (wordBy (cellv ns (1 + k)) w)) (ea_one (ed_Ii (ed_Ii (ed_call (ea_cons (ed_var rfl) (ea_one ed_int)) (hcell 0 (by decide))) ed_int (cdk (by decide))) ed_int (by decide))) (by omega)
    fun x hx => ed_call (ea_cons (ed_var rfl) (ea_cons (ed_var rfl) (ea_one (ed_var rfl)))) ⟨ns, x, w, rfl, (mem_irg.mp hx).1, hw, rfl⟩) (by rw [List.map_map]; rfl))) ?_)) ?_)
  · have := sum_le 6 (((irg 0 (cellv ns 0 / 4 % 5)).map fun k => wordBy (cellv ns (1 + k)) w).map (·.length)) fun p hp => by
      obtain ⟨q, hq, rfl⟩ := List.mem_map.mp hp
      exact hps q hq
    rw [List.length_map] at this
    show _ + _ * 1 ≤ _
    omega
  have hjl := joinL_len 32 6 _ hps
  have hjl2 : (TL.joinL [32] ((irg 0 (cellv ns 0 / 4 % 5)).map fun k => wordBy (cellv ns (1 + k)) w)).length ≤ 28 := by omega
  generalize TL.joinL [32] ((irg 0 (cellv ns 0 / 4 % 5)).map fun k => wordBy (cellv ns (1 + k)) w) = t0 at hjl2 ⊢
  clear hjl hps hpl hq0 hq1
  refine sd_seq (sd_asg (eds_h (ed_Ii (ed_call (ea_cons (ed_var rfl) (ea_one ed_int)) (hcell 6 (by decide))) ed_int (by decide))) ?_)
  generalize cellv ns 6 % 8 = way
  refine sd_seq (sd_asg (eds_h (ed_Ii (ed_call (ea_cons (ed_var rfl) (ea_one ed_int)) (hcell 7 (by decide))) (ed_I0i (ED.is (ed_cb (ea_one (ed_var rfl)) (cd_lenS (by rw [ofL_len]; omega))) (by rw [ofL_len])) ed_int) (show 0 < (t0.length : Int) + 1 by omega))) ?_)
  generalize cellv ns 7 % ((t0.length : Int) + 1) = a
  refine sd_seq (sd_asg (d := .list someD) (eds_h (EF.ed (ef_lst (ea_cons (ed_strL (a := [115]) rfl) (ea_cons (ed_strL (a := [116]) rfl) (ea_cons (ed_strL (a := [84]) rfl) (ea_cons (ed_strL (a := [48]) rfl) (ea_cons (ed_strL (a := [49]) rfl) (ea_cons (ed_strL (a := [50]) rfl) (ea_cons (ed_strL (a := [51]) rfl) (ea_cons (ed_strL (a := [52]) rfl)
    (ea_cons (ed_strL (a := [32]) rfl) (ea_cons (ed_strL (a := [45]) rfl) (ea_cons (ed_strL (a := [43]) rfl) (ea_cons (ed_strL (a := [95]) rfl) (ea_cons (ed_strL (a := [9]) rfl) (ea_cons (ed_strL (a := [10]) rfl) (ea_cons (ed_strL (a := [97]) rfl) (ea_one (ed_strL (a := [57]) rfl)))))))))))))))))))) ?_)
  obtain ⟨c, hc⟩ := some_at (k := cellv ns 8 % 16) ⟨Int.emod_nonneg _ (by decide), Int.emod_lt_of_pos _ (by decide)⟩
  refine sd_seq (sd_asg (d := sD [c]) (eds_h (ed_ixL (ed_var rfl) (ed_Ii (ed_call (ea_cons (ed_var rfl) (ea_one ed_int)) (hcell 8 (by decide))) ed_int (by decide)) hc)) ?_)
  clear hc
  have st : ∀ t : List Nat, [Sl.d (scrD ns), .d (.int w), .d (sD t), .u, .d (.int way), .d (.int a), .d (.list someD), .d (sD [c]), .u, .u, .u] = [Sl.d (scrD ns), .d (.int w), .d (sD t), .u, .d (.int way), .d (.int a), .d (.list someD), .d (sD [c]), .u, .u, .u] := fun _ => rfl
  generalize someD = sm at st ⊢
  have hc1 := cutL_len
  refine sd_cut (fun ρ => ∃ t, t.length ≤ 60 ∧ ρ = [.d (scrD ns), .d (.int w), .d (sD t), .u, .d (.int way), .d (.int a), .d (.list sm), .d (sD [c]), .u, .u, .u])
    (sd_if (ets (et_or (et_test (ed_eqI (ed_var rfl) ed_int)) fun _ => et_test (ed_eqI (ed_var rfl) ed_int))) (fun _ => sd_asg (eds_h (ed_addS (ed_addS (ed_slS (lo := none) (hi := some a) (ed_var rfl) eo_none (eo_some (ed_var rfl)) (by omega)) (ed_var rfl) ?_) (ed_slS (lo := some a) (hi := none) (ed_var rfl) (eo_some (ed_var rfl)) eo_none (by omega)) ?_)) ⟨_, ?_, rfl⟩) (fun _ => sd_next ⟨t0, by omega, rfl⟩)) (fun ρ' hp => ?_)
  · have := hc1 t0 none (some a)
    show _ + 1 ≤ _
    omega
  · have := hc1 t0 none (some a)
    have := hc1 t0 (some a) none
    rw [List.length_append]
    show _ + 1 + _ ≤ _
    omega
  · have := hc1 t0 none (some a)
    have := hc1 t0 (some a) none
    rw [List.length_append, List.length_append]
    show _ + 1 + _ ≤ _
    omega
  clear hjl2 t0
  obtain ⟨t1, ht1, rfl⟩ := hp
  refine sd_cut (fun ρ => ∃ t, t.length ≤ 130 ∧ ρ = [.d (scrD ns), .d (.int w), .d (sD t), .u, .d (.int way), .d (.int a), .d (.list sm), .d (sD [c]), .u, .u, .u])
    (sd_if (ets (et_test (ed_eqI (ed_var rfl) ed_int))) (fun _ => sd_asg (eds_h (ed_addS (ed_slS (lo := none) (hi := some a) (ed_var rfl) eo_none (eo_some (ed_var rfl)) (by omega)) (ed_slS (lo := some (a + 1)) (hi := none) (ed_var rfl) (eo_some (ed_I0i (ed_var rfl) ed_int)) eo_none (by omega)) ?_)) ⟨_, ?_, rfl⟩) (fun _ => sd_next ⟨t1, by omega, rfl⟩)) (fun ρ' hp => ?_)
  · have := hc1 t1 none (some a)
    have := hc1 t1 (some (a + 1)) none
    omega
  · have := hc1 t1 none (some a)
    have := hc1 t1 (some (a + 1)) none
    rw [List.length_append]
    omega
  clear ht1 t1
  obtain ⟨t2, ht2, rfl⟩ := hp
  refine sd_cut (fun ρ => ∃ t, t.length ≤ 300 ∧ ρ = [.d (scrD ns), .d (.int w), .d (sD t), .u, .d (.int way), .d (.int a), .d (.list sm), .d (sD [c]), .u, .u, .u])
    (sd_if (ets (et_test (ed_eqI (ed_var rfl) ed_int))) (fun _ => sd_asg (eds_h (ed_addS (ed_addS (ed_slS (lo := none) (hi := some a) (ed_var rfl) eo_none (eo_some (ed_var rfl)) (by omega)) (ed_var rfl) ?_) (ed_slS (lo := some (a + 1)) (hi := none) (ed_var rfl) (eo_some (ed_I0i (ed_var rfl) ed_int)) eo_none (by omega)) ?_)) ⟨_, ?_, rfl⟩) (fun _ => sd_next ⟨t2, by omega, rfl⟩)) (fun ρ' hp => ?_)
  · have := hc1 t2 none (some a)
    show _ + 1 ≤ _
    omega
  · have := hc1 t2 none (some a)
    have := hc1 t2 (some (a + 1)) none
    rw [List.length_append]
    show _ + 1 + _ ≤ _
    omega
  · have := hc1 t2 none (some a)
    have := hc1 t2 (some (a + 1)) none
    rw [List.length_append, List.length_append]
    show _ + 1 + _ ≤ _
    omega
  clear ht2 t2
  obtain ⟨t3, ht3, rfl⟩ := hp
  have hr0 : 0 ≤ cellv ns 9 / 9 % 2 := Int.emod_nonneg _ (by decide)
  have hr1 : cellv ns 9 / 9 % 2 < 2 := Int.emod_lt_of_pos _ (by decide)
  have hfl : (List.replicate (999 + cellv ns 9 / 9 % 2).toNat [32, 116, 48]).flatten.length ≤ 3000 := by
    rw [len_flat]
    show 3 * _ ≤ _
    omega
  refine sd_cut (fun ρ => ∃ t, t.length ≤ 4000 ∧ ρ = [.d (scrD ns), .d (.int w), .d (sD t), .u, .d (.int way), .d (.int a), .d (.list sm), .d (sD [c]), .u, .u, .u])
    (sd_if (ets (et_test (ed_eqI (ed_Ii (ed_call (ea_cons (ed_var rfl) (ea_one ed_int)) (hcell 9 (by decide))) ed_int (by decide)) ed_int))) (fun _ => sd_asg (eds_h (ed_addS (a := [116, 48]) (ed_strL rfl) (ed_repS (l := [32, 116, 48]) (k := 999 + cellv ns 9 / 9 % 2) (ed_strL rfl) (ed_I0i ed_int (ed_Ii (ed_Ii (ed_call (ea_cons (ed_var rfl) (ea_one ed_int)) (hcell 9 (by decide))) ed_int (cdk (by decide))) ed_int (by decide))) (by omega) ⟨List.cons_ne_nil _ _, by show (3 : Nat) < 1000; decide⟩) ?_)) ⟨_, ?_, rfl⟩)
      (fun _ => sd_next ⟨t3, by omega, rfl⟩)) (fun ρ' hp => ?_)
  · show 2 + _ ≤ _
    omega
  · rw [List.length_append]
    show 2 + _ ≤ _
    omega
  clear ht3 t3 hfl hr0 hr1
  obtain ⟨t, ht, rfl⟩ := hp
  have htl : t.length ≤ 90000 := by omega
  refine sd_seq (sd_if (ets (et_test (ed_eqI (ed_Ii (ed_call (ea_cons (ed_var rfl) (ea_one ed_int)) (hcell 10 (by decide))) ed_int (by decide)) ed_int))) (fun _ => ?_) (fun _ => sd_next ?_))
  · refine sd_seq (sd_asg (d := .int (cellv ns 10 % 10 ^ 20)) (eds_h (ED.is (ed_Ii (ed_call (ea_cons (ed_var rfl) (ea_one ed_int)) (hcell 10 (by decide))) (ed_Ii ed_int ed_int (show CPow 10 _ by unfold CPow; decide)) (by decide)) rfl)) ?_)
    have hf0 : 0 ≤ cellv ns 10 % 10 ^ 20 := Int.emod_nonneg _ (by decide)
    generalize cellv ns 10 % 10 ^ 20 = far at hf0 ⊢
    obtain ⟨x, hx, hnx⟩ := far_at hf0 (k := cellv ns 10 / 8 % 4) ⟨Int.emod_nonneg _ (by decide), Int.emod_lt_of_pos _ (by decide)⟩
    exact sd_ret (ED.is (ed_op (ed_call (ea_cons (ed_ixL (EF.ed (ef_lst (ea_cons ed_int (ea_cons ed_int (ea_cons (ed_I0i ed_int (ed_var rfl)) (ea_one (ed_I0i ed_int (ed_var rfl)))))))) (ed_Ii (ed_Ii (ed_call (ea_cons (ed_var rfl) (ea_one ed_int)) (hcell 10 (by decide))) ed_int (cdk (by decide))) ed_int (by decide)) hx) (ea_one (ed_var rfl))) ⟨x, t, rfl, htl, by rw [if_pos hnx]⟩) ed_str
      (rd_eqD (a := .str "wires") (b := .str "wires") ((shp_str (by decide +kernel)).shaped (by decide)) ((shp_str (by decide +kernel)).shaped (by decide)))) (by rw [eq_wires])) rfl
  · by_cases good : t = [] ∨ okB w t = true
    · refine sd_seq (sd_asg (d := .list (rowD w t)) (eds_h (EF.ed (ef_call (ea_cons (ed_var rfl) (ea_one (ed_var rfl))) ⟨w, t, rfl, hw, htl, by rw [if_pos good]⟩))) ?_)
      refine sd_seq (sd_asg (d := .list (rowD w t)) (eds_h (EF.ed (ef_call (ea_cons (ed_var rfl) (ea_one (ed_var rfl))) ⟨w, t, rfl, htl, by rw [if_neg (fun z => z hw), if_pos good]⟩))) ?_)
      refine sd_seq (sd_if (c := false) (ets (et_test (ed_op (ed_var rfl) ed_non (rd_isN (d := .list (rowD w t)))))) (fun h => by cases h) (fun _ => sd_next ?_))
      exact sd_ret (ED.is (ed_andV (ed_isi (ed_var rfl) (.lst _) kb_ll) fun _ => ed_eqSelf (ed_var rfl) (ed_var rfl) shp_rowN (by decide)) (by rfl)) rfl
    · refine sd_seq (sd_asg (d := .none) (eds_h (ed_call (ea_cons (ed_var rfl) (ea_one (ed_var rfl))) ⟨w, t, rfl, hw, htl, by rw [if_neg good]⟩)) ?_)
      refine sd_seq (sd_asg (d := .str "note") (eds_h (ed_call (ea_cons (ed_var rfl) (ea_one (ed_var rfl))) ⟨w, t, rfl, htl, by rw [if_neg (fun z => z hw), if_neg good]⟩)) ?_)
      refine sd_seq (sd_if (c := true) (ets (et_test (ed_op (ed_var rfl) ed_non (rd_isN (d := .none))))) (fun _ => ?_) (fun h => by cases h))
      exact sd_ret (ED.is (ed_op (ed_var rfl) ed_str (rd_eqD (a := .str "note") (b := .str "note") ((shp_str (by decide +kernel)).shaped (by decide)) ((shp_str (by decide +kernel)).shaped (by decide)))) (by rw [eq_note])) rfl
theorem all_cl (T : Tx K mg) {fL : Addr} {fdL : FuncData} (F : FunD K "law" "law" (defArgs slaw) (defBody slaw) (defScope slaw) [] [] fL fdL) : FnOk P wld K mg base CX0 6 fL fdL ["script"] (SpD K S_law) := by
  have c_asked_wires : Cad CX0 P wld K mg base 1 "asked_wires" S_asked_wires := c_asked_wires T 
  have x_asked_wires : Cad (L2.CX P wld) P wld K mg base 1 "asked_wires" (X_asked_wires K) := x_asked_wires T 
  have c_is_turn : Cad CX0 P wld K mg base 1 "is_turn" S_is_turn := c_is_turn T 
  have c_is_gate : Cad CX0 P wld K mg base 2 "is_gate" S_is_gate := c_is_gate T c_is_turn
  have c_gate_of : Cad (L2.CX P wld) P wld K mg base 3 "gate_of" (S_gate_ofX K) := c_gate_of T c_is_gate
  have c_read : Cad (L2.CX P wld) P wld K mg base 4 "read" (S_readX K) := c_read T c_asked_wires c_gate_of x_asked_wires
  have c__law_cell_at : Cad CX0 P wld K mg base 1 "_law_cell_at" S_law_cell_at := c__law_cell_at T 
  have c__law_draw : Cad CX0 P wld K mg base 1 "_law_draw" S_law_draw := c__law_draw T 
  have c__law_word_of : WordDef P wld K mg base "_law_word_of" (WordW K) := c__law_word_of T 
  have c__law_gate : Cad CX0 P wld K mg base 1 "_law_gate" S_law_gate := c__law_gate T 
  have c__law_read : Cad CX0 P wld K mg base 2 "_law_read" S_law_read := c__law_read T c__law_gate
  have c__law_word_by : Cad CX0 P wld K mg base 2 "_law_word_by" S_law_word_by := c__law_word_by T c__law_cell_at c__law_draw
  have c__law_told : Cad CX0 P wld K mg base 5 "_law_told" S_law_toldT := c__law_told T c_read c__law_word_of
  exact c_law T c__law_read c__law_told c__law_cell_at c__law_word_by F

end
theorem law_ok {P : Program} {wld : World} {K : Fg} {mg : Str → Option Value} {h : Heap} {fL : Addr} (KX : K.In h) (G : h.Ns mainGlobals mg) (hmg : mg "law" = some (.ref fL)) (c : He.SaysD fa fn K) (cx : exB K = true) :
    ∃ (K : Fg) (fd : FuncData) (sp : Sp), K.In h ∧ (∀ (s : Shared) (u : Value), BindsTo s fd ⟨[u], []⟩ [("script", u)]) ∧
      (∀ (H : Hp) (a : Addr) (ns : List Int), ns.length ≤ 63 → Only H → SqL K H a (ns.map V.int) → sp [.ref a] H (fun v _ => v = .bl true) fun _ _ _ => False) ∧
      ∀ base : Heap, K.In base → base.Ns mainGlobals mg → FnOk P wld K mg base CX0 6 fL fd ["script"] sp := by
  obtain ⟨fd, F⟩ := c.def_ 12 rfl
  have e := hmg.symm.trans (He.glo_ok KX G (c.fact 12 (f := .glo "law") rfl))
  cases e
  exact ⟨K, fd, SpD K S_law, KX, fun s u => FunD.bindsA (ps := ["script"]) F (fun _ _ _ _ _ _ us hl => match us, hl with | [_], _ => rfl) s [u] rfl,
    fun H a ns hl _ hS => ⟨H, [scrD ns], .val (.bool true), Ex.refl _, .cons (.scr hS) .nil, ⟨ns, rfl, rfl⟩, fun v M' H' g dv => dv.bl_inv⟩, fun base _ _ => all_cl (tx_of KX G c cx) F⟩
end K12
open PySem PySem.W PySem.Calls PyProof.Rows
set_option maxHeartbeats 0 in
theorem PySem.Challenge.cw_undogates_k12_read_or_refused_holds : PySem.Challenge.rw_undogates_k12_read_or_refused.Holds := by
  w_on; o_law
  refine HandSHeadRun.head_any (r := OpenLaw.row PySem.Challenge.rw_undogates_k12_read_or_refused) (q := view (OpenLaw.row PySem.Challenge.rw_undogates_k12_read_or_refused).prog [26]) (H := K12.hk) (ob := K12.ob) (M := 3000) (loose := K12.loose) (d := HandSHeadRun.topDef (OpenLaw.row PySem.Challenge.rw_undogates_k12_read_or_refused).prog 26) (kwd := []) K12.ob_eq
    (by kernel_rfl) (fun s => by kernel_rfl) K12.run (by kernel_rfl) (by kernel_rfl) (by kernel_rfl) (by rfl) (by first | assumption | decide +kernel) (by decide +kernel) ⟨rfl, rfl, rfl, rfl, rfl, by decide +kernel⟩ ?hw ?hc
  case hw => w_witness2
  case hc =>
    refine L2.walk_ofE (l := PySem.Challenge.rw_undogates_k12_read_or_refused) (n := 63) (k := 6) (x := "script") (CX := L2.CX0) rfl (by decide) (by kernel_rfl) ⟨rfl, by decide, by decide⟩ ?F (fun _ _ _ _ z => z)
    intro w mg fa h Y G hmg0
    obtain ⟨K, KX, c, cx⟩ := Y
    have hmg : mg ("law" : PySem.Str) = some (.ref fa) := by
      have e : (HandSHeadRun.topDef (OpenLaw.row PySem.Challenge.rw_undogates_k12_read_or_refused).prog 26).name = ("law" : PySem.Str) := by kernel_rfl
      rw [← e]
      exact hmg0
    exact K12.law_ok KX G hmg c cx

