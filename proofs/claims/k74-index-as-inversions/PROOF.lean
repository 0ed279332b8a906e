import PyProof.Rows.All
import Wide.All
import OpenK.AllK
import Wide.FinOn
import HandS.ForMost
import HandS.EndBits
import HandS.Walk
import HandS.Zip
import HandS.TupAny
import HandS.TupMul
import HandS.Style
import HandS.Conv
import HandS.IsInst
import KE.SortData
import KE.DataMinMax
import KE.KTupSum
import KE.KIndexOf
import KE.GoesNew
import KE.GoesEnum
import HandS.More
import HandS.Deep
import HandS.SortInts
import HandS.Wide
import HandS.Star
import KE.DataFind
import PyProof.ReprRoads
import HandS.Sort
import KE.SortCalls
import PyProof.FactsAll.tuple_0
import PyProof.FactsAll.tuple_2
import HandS.Small
import PySem.Challenge.RW_numbersparted_k74_whole_index_as_inversi
set_option Elab.async false
set_option linter.all false
set_option maxRecDepth 100000
set_option maxHeartbeats 4000000
set_option autoImplicit false
/-! F1: values by data (PyData trees), environments by data, functional readings. -/
namespace FL
open PySem PySem.Spec PyProof.Rows L2

/-- the objects of the law's source: their addresses, what holds of them -/
structure Sx where
  src : Option Addr
  S : Addr → Prop
  SI : Hp → Prop
  keep : ∀ H H' : Hp, SI H → (∀ a, S a → H' a = H a) → SI H'
  srcS : ∀ a, src = some a → S a
  there : ∀ (H : Hp) a, SI H → S a → ∃ o, H a = some o ∧ (∀ xs, o ≠ .tup xs) ∧ (∀ ob u, o ≠ .frz ob u)
/-- no source -/
def Sx.nil : Sx := ⟨none, fun _ => False, fun _ => True, fun _ _ _ _ => trivial, fun _ h => (nomatch h), fun _ _ _ h => h.elim⟩

/-- the mark that stands for the source -/
def srcD : PyData := .dict [(.str "source", .none)]

mutual
inductive Rp (K : PySem.W.Frag) (sc : Option Addr) (F : Addr → Prop) (H : Hp) : V → PyData → Prop
  | non : Rp K sc F H .non .none
  | bl (b : Bool) : Rp K sc F H (.bl b) (.bool b)
  | int (i : Int) : Rp K sc F H (.int i) (.int i)
  | str (x : Str) : Rp K sc F H (.str x) (.str x)
  | lst {a : Addr} {xs : List V} {ds : List PyData} (h : H a = some (.lst xs)) (n : ¬ F a) (r : RpAll K sc F H xs ds) : Rp K sc F H (.ref a) (.list ds)
  | tup {a : Addr} {o : Obj} {xs : List V} {ds : List PyData} (h : H a = some (.frz o (.tup xs))) (hd : o.dict = none) (r : RpAll K sc F H xs ds) : Rp K sc F H (.ref a) (.tuple ds)
  | src {a : Addr} (h : sc = some a) : Rp K sc F H (.ref a) srcD
inductive RpAll (K : PySem.W.Frag) (sc : Option Addr) (F : Addr → Prop) (H : Hp) : List V → List PyData → Prop
  | nil : RpAll K sc F H [] []
  | cons {v : V} {d : PyData} {vs : List V} {ds : List PyData} (h : Rp K sc F H v d) (r : RpAll K sc F H vs ds) : RpAll K sc F H (v :: vs) (d :: ds)
end

section
variable {K : PySem.W.Frag} {sc : Option Addr} {F F' : Addr → Prop} {H H' : Hp}
mutual
/-- where the heap keeps what is leant on -/
theorem Rp.keep (k : ∀ a o, H a = some o → ¬ F a → H' a = some o) (kt : ∀ a o xs, H a = some (.frz o (.tup xs)) → H' a = some (.frz o (.tup xs))) (hs : ∀ a, F' a → F a ∨ H a = none) : ∀ {v : V} {d : PyData}, Rp K sc F H v d → Rp K sc F' H' v d
  | _, _, .non => .non
  | _, _, .bl b => .bl b
  | _, _, .int i => .int i
  | _, _, .str x => .str x
  | _, _, .lst h n r => .lst (k _ _ h n) (fun z => by
      rcases hs _ z with q | q
      · exact n q
      · rw [h] at q; cases q) (RpAll.keep k kt hs r)
  | _, _, .tup h hd r => .tup (kt _ _ _ h) hd (RpAll.keep k kt hs r)
  | _, _, .src h => .src h
theorem RpAll.keep (k : ∀ a o, H a = some o → ¬ F a → H' a = some o) (kt : ∀ a o xs, H a = some (.frz o (.tup xs)) → H' a = some (.frz o (.tup xs))) (hs : ∀ a, F' a → F a ∨ H a = none) : ∀ {vs : List V} {ds : List PyData}, RpAll K sc F H vs ds → RpAll K sc F' H' vs ds
  | _, _, .nil => .nil
  | _, _, .cons h r => .cons (Rp.keep k kt hs h) (RpAll.keep k kt hs r)
end
/-- fewer, or new, addresses barred -/
theorem Rp.sub (hs : ∀ a, F' a → F a ∨ H a = none) {v : V} {d : PyData} (h : Rp K sc F H v d) : Rp K sc F' H v d := Rp.keep (fun _ _ e _ => e) (fun _ _ _ e => e) hs h
theorem RpAll.sub (hs : ∀ a, F' a → F a ∨ H a = none) {vs : List V} {ds : List PyData} (h : RpAll K sc F H vs ds) : RpAll K sc F' H vs ds := RpAll.keep (fun _ _ e _ => e) (fun _ _ _ e => e) hs h
theorem RpAll.length : ∀ {vs : List V} {ds : List PyData}, RpAll K sc F H vs ds → vs.length = ds.length
  | _, _, .nil => rfl
  | _, _, .cons _ r => by simp [RpAll.length r]
theorem RpAll.append : ∀ {vs ws : List V} {ds es : List PyData}, RpAll K sc F H vs ds → RpAll K sc F H ws es → RpAll K sc F H (vs ++ ws) (ds ++ es)
  | _, _, _, _, .nil, s => s
  | _, _, _, _, .cons h r, s => .cons h (RpAll.append r s)
theorem RpAll.get : ∀ {vs : List V} {ds : List PyData} {i : Nat} {d : PyData}, RpAll K sc F H vs ds → ds[i]? = some d → ∃ v, vs[i]? = some v ∧ Rp K sc F H v d
  | _, _, _, _, .nil, e => by simp at e
  | _, _, 0, _, .cons h _, e => by simp at e; subst e; exact ⟨_, rfl, h⟩
  | _, _, i + 1, d, .cons _ r, e => by
    obtain ⟨v, h1, h2⟩ := RpAll.get (i := i) (d := d) r (by simpa using e)
    exact ⟨v, by simpa using h1, h2⟩
theorem RpAll.getV : ∀ {vs : List V} {ds : List PyData} {i : Nat} {v : V}, RpAll K sc F H vs ds → vs[i]? = some v → ∃ d, ds[i]? = some d ∧ Rp K sc F H v d
  | _, _, _, _, .nil, e => by simp at e
  | _, _, 0, _, .cons h _, e => by simp at e; subst e; exact ⟨_, rfl, h⟩
  | _, _, i + 1, d, .cons _ r, e => by
    obtain ⟨v, h1, h2⟩ := RpAll.getV (i := i) (v := d) r (by simpa using e)
    exact ⟨v, by simpa using h1, h2⟩
theorem RpAll.set {v : V} {d : PyData} (q : Rp K sc F H v d) : ∀ {vs : List V} {ds : List PyData} (i : Nat), RpAll K sc F H vs ds → RpAll K sc F H (vs.set i v) (ds.set i d)
  | _, _, _, .nil => .nil
  | _, _, 0, .cons _ r => .cons q r
  | _, _, i + 1, .cons h r => .cons h (RpAll.set q i r)
theorem RpAll.take : ∀ {vs : List V} {ds : List PyData} (n : Nat), RpAll K sc F H vs ds → RpAll K sc F H (vs.take n) (ds.take n)
  | _, _, 0, _ => .nil
  | _, _, _ + 1, .nil => .nil
  | _, _, n + 1, .cons h r => .cons h (RpAll.take n r)
theorem RpAll.drop : ∀ {vs : List V} {ds : List PyData} (n : Nat), RpAll K sc F H vs ds → RpAll K sc F H (vs.drop n) (ds.drop n)
  | _, _, 0, r => r
  | _, _, _ + 1, .nil => .nil
  | _, _, n + 1, .cons _ r => RpAll.drop n r
theorem RpAll.reverse {vs : List V} {ds : List PyData} (h : RpAll K sc F H vs ds) : RpAll K sc F H vs.reverse ds.reverse := by
  have rec_ : ∀ {vs : List V} {ds : List PyData}, RpAll K sc F H vs ds → RpAll K sc F H vs.reverse ds.reverse := fun {vs} => by
    induction vs with
    | nil => intro ds h; cases h; exact .nil
    | cons v r ih =>
      intro ds h
      cases h with
      | cons h t =>
        rw [List.reverse_cons, List.reverse_cons]
        exact (ih t).append (.cons h .nil)
  exact rec_ h
theorem RpAll.rep {vs : List V} {ds : List PyData} (h : RpAll K sc F H vs ds) : ∀ k : Nat, RpAll K sc F H (List.replicate k vs).flatten (List.replicate k ds).flatten
  | 0 => .nil
  | k + 1 => by
    rw [List.replicate_succ, List.replicate_succ, List.flatten_cons, List.flatten_cons]
    exact h.append (RpAll.rep h k)
theorem RpAll.eraseIdx : ∀ {vs : List V} {ds : List PyData} (i : Nat), RpAll K sc F H vs ds → RpAll K sc F H (vs.eraseIdx i) (ds.eraseIdx i)
  | _, _, _, .nil => .nil
  | _, _, 0, .cons _ r => r
  | _, _, i + 1, .cons h r => .cons h (RpAll.eraseIdx i r)
/-- ints are ints -/
theorem RpAll.ints : ∀ {vs : List V} {ns : List Int}, RpAll K sc F H vs (ns.map PyData.int) → vs = ns.map V.int
  | _, [], .nil => rfl
  | _, _ :: _, .cons h r => by cases h; rw [RpAll.ints r]; rfl
theorem RpAll.ofInts : ∀ (ns : List Int), RpAll K sc F H (ns.map V.int) (ns.map PyData.int)
  | [] => .nil
  | n :: r => .cons (.int n) (RpAll.ofInts r)
theorem RpAll.bools : ∀ {vs : List V} {ns : List Bool}, RpAll K sc F H vs (ns.map PyData.bool) → vs = ns.map V.bl
  | _, [], .nil => rfl
  | _, _ :: _, .cons h r => by cases h; rw [RpAll.bools r]; rfl

end
mutual
/-- no list within -/
def immut : PyData → Bool
  | .none => true
  | .bool _ => true
  | .int _ => true
  | .str _ => true
  | .tuple ds => immutAll ds
  | .list _ => false
  | .dict _ => false
def immutAll : List PyData → Bool
  | [] => true
  | d :: ds => immut d && immutAll ds
end
mutual
/-- no dict (no source) within -/
def plain : PyData → Bool
  | .none => true
  | .bool _ => true
  | .int _ => true
  | .str _ => true
  | .tuple ds => plainAll ds
  | .list ds => plainAll ds
  | .dict _ => false
def plainAll : List PyData → Bool
  | [] => true
  | d :: ds => plain d && plainAll ds
end
section
variable {K : PySem.W.Frag} {sc : Option Addr} {F F' : Addr → Prop} {H H' : Hp}
mutual
theorem Rp.imm : ∀ {v : V} {d : PyData}, Rp K sc F H v d → immut d = true → Rp K sc F' H v d
  | _, _, .non, _ => .non
  | _, _, .bl b, _ => .bl b
  | _, _, .int i, _ => .int i
  | _, _, .str x, _ => .str x
  | _, _, .lst _ _ _, e => by simp [immut] at e
  | _, _, .tup h hd r, e => .tup h hd (RpAll.imm r (by simpa [immut] using e))
  | _, _, .src h, _ => .src h
theorem RpAll.imm : ∀ {vs : List V} {ds : List PyData}, RpAll K sc F H vs ds → immutAll ds = true → RpAll K sc F' H vs ds
  | _, _, .nil, _ => .nil
  | _, _, .cons h r, e => by
    have e' := e
    simp only [immutAll, Bool.and_eq_true] at e'
    exact .cons (Rp.imm h e'.1) (RpAll.imm r e'.2)
end
mutual
theorem Rp.dp : ∀ {v : V} {d : PyData}, Rp K sc F H v d → plain d = true → Dp K H v d
  | _, _, .non, _ => .non
  | _, _, .bl b, _ => .bl b
  | _, _, .int i, _ => .int i
  | _, _, .str x, _ => .str x
  | _, _, .lst h _ r, e => .lst (SqL.of h) (RpAll.dp r (by simpa [plain] using e))
  | _, _, .tup h _ r, e => .tup (.inl (.inr ⟨_, h⟩)) (RpAll.dp r (by simpa [plain] using e))
  | _, _, .src h, e => by simp [plain, srcD] at e
theorem RpAll.dp : ∀ {vs : List V} {ds : List PyData}, RpAll K sc F H vs ds → plainAll ds = true → DpAll K H vs ds
  | _, _, .nil, _ => .nil
  | _, _, .cons h r, e => by
    have e' := e
    simp only [plainAll, Bool.and_eq_true] at e'
    exact .cons (Rp.dp h e'.1) (RpAll.dp r e'.2)
end
end

/-- all but S is as it was -/
def Keep (S : Addr → Prop) (H H' : Hp) : Prop := ∀ a o, H a = some o → ¬ S a → H' a = some o
theorem Keep.refl (S : Addr → Prop) (H : Hp) : Keep S H H := fun _ _ e _ => e
theorem Keep.trans {S : Addr → Prop} {H H1 H2 : Hp} (a : Keep S H H1) (b : Keep S H1 H2) : Keep S H H2 := fun c o e n => b c o (a c o e n) n
theorem Keep.of_same {S : Addr → Prop} {H H' : Hp} (a : Same H H') : Keep S H H' := fun c o e _ => a c o e
theorem Keep.upd {S : Addr → Prop} {H : Hp} {p : Addr} {o : HO} (h : H p = none) : Keep S H (upd H p o) := fun a u e _ => by
  rw [upd_ne (ne_of_none e h)]; exact e
theorem same_upd {H : Hp} {p : Addr} {o : HO} (h : H p = none) : Same H (upd H p o) := fun b x e => by
  rw [upd_ne (ne_of_none e h)]
  exact e
theorem Sx.same (x : Sx) {H H' : Hp} (si : x.SI H) (s : Same H H') : x.SI H' := x.keep H H' si fun a ha => by
  obtain ⟨o, e, _⟩ := x.there H a si ha
  rw [e, s a o e]
theorem Sx.updN (x : Sx) {H : Hp} {p : Addr} {o : HO} (si : x.SI H) (h : H p = none) : x.SI (upd H p o) := x.same si (same_upd h)
theorem Sx.frz (x : Sx) {H H' : Hp} (si : x.SI H) (k : Keep x.S H H') (a : Addr) (o : Obj) (xs : List V) (h : H a = some (.frz o (.tup xs))) : H' a = some (.frz o (.tup xs)) := by
  refine k a _ h fun z => ?_
  obtain ⟨o', e, _, n⟩ := x.there H a si z
  rw [h] at e; cases e
  exact n _ _ rfl
theorem frz_upd {H : Hp} {p : Addr} {ys zs : List V} (hp : H p = some (.lst ys)) (a : Addr) (o : Obj) (xs : List V) (h : H a = some (.frz o (.tup xs))) : upd H p (.lst zs) a = some (.frz o (.tup xs)) := by
  rw [upd_ne (ne_of h hp (by intro z; cases z))]; exact h
/-- the S-addresses stay, new ones are none of them -/
theorem Keep.none {x : Sx} {H H' : Hp} (si : x.SI H) (si' : x.SI H') (k : Keep x.S H H') {p : Addr} (h : H' p = none) : H p = none := by
  cases q : H p with
  | none => rfl
  | some o =>
    by_cases z : x.S p
    · obtain ⟨o', e, _⟩ := x.there H' p si' z
      rw [h] at e; cases e
    · rw [k p o q z] at h; cases h

abbrev Ev := List (Option PyData)
/-- G and the lists that the def itself may change -/
def Fo (G : Addr → Prop) (own : Nat → Option Addr) : Addr → Prop := fun a => G a ∨ ∃ i, own i = some a

def setOwn (own : Nat → Option Addr) (i : Nat) (p : Addr) : Nat → Option Addr := fun j => if j = i then some p else own j
theorem setOwn_self {own : Nat → Option Addr} {i : Nat} {p : Addr} : setOwn own i p i = some p := if_pos rfl
theorem setOwn_ne {own : Nat → Option Addr} {i j : Nat} {p : Addr} (h : j ≠ i) : setOwn own i p j = own j := if_neg h
/-- slot i holds a list of its own (or something that is no list) -/
def OwnAt (K : PySem.W.Frag) (sc : Option Addr) (F : Addr → Prop) (H : Hp) (o : Option Addr) (v : V) (d : PyData) : Prop :=
  (∃ p xs ds, o = some p ∧ v = .ref p ∧ d = .list ds ∧ H p = some (.lst xs) ∧ RpAll K sc F H xs ds) ∨ (Rp K sc F H v d ∧ ∀ ds, d ≠ .list ds)

/-- the environment by data. O: the slots that own their lists; Pn: what stands as it was; gh: values kept in mind; G: barred addresses -/
structure ER (K : PySem.W.Frag) (x : Sx) (O : Nat → Bool) (Pn : Addr → HO → Prop) (gh : List (V × PyData)) (G : Addr → Prop) (own : Nat → Option Addr) (σ : L2.St) (H : Hp) (env : Ev) : Prop where
  si : x.SI H
  pin : ∀ a o, Pn a o → H a = some o
  pinS : ∀ a o, Pn a o → ¬ x.S a
  gS : ∀ a, x.S a → G a
  gH : ∀ a, G a → ∃ o, H a = some o
  len : σ.length = env.length
  ownL : ∀ i p, own i = some p → O i = true ∧ ¬ G p ∧ (∀ o, ¬ Pn p o) ∧ ∃ xs, H p = some (.lst xs)
  inj : ∀ i j p, own i = some p → own j = some p → i = j
  ghs : ∀ v d, (v, d) ∈ gh → Rp K x.src (Fo G own) H v d
  slot : ∀ i d, env[i]? = some (some d) → ∃ v, σ[i]? = some (some v) ∧ if O i = true then OwnAt K x.src (Fo G own) H (own i) v d else Rp K x.src (Fo G own) H v d

section
variable {K : PySem.W.Frag} {x : Sx} {O : Nat → Bool} {Pn : Addr → HO → Prop} {gh : List (V × PyData)} {G : Addr → Prop} {own : Nat → Option Addr} {σ : L2.St} {H H' : Hp} {env : Ev}
theorem ER.foS (E : ER K x O Pn gh G own σ H env) {a : Addr} (h : ¬ Fo G own a) : ¬ x.S a := fun z => h (.inl (E.gS a z))
theorem ER.foH (E : ER K x O Pn gh G own σ H env) {a : Addr} (h : Fo G own a) : ∃ o, H a = some o := by
  rcases h with h | ⟨i, h⟩
  · exact E.gH a h
  · obtain ⟨_, _, _, xs, e⟩ := E.ownL i a h
    exact ⟨_, e⟩
theorem ER.foN (E : ER K x O Pn gh G own σ H env) {a : Addr} (h : H a = none) : ¬ Fo G own a := fun z => by
  obtain ⟨o, e⟩ := E.foH z
  rw [h] at e; cases e
theorem ER.rp (E : ER K x O Pn gh G own σ H env) (k : Keep x.S H H') {v : V} {d : PyData} (h : Rp K x.src (Fo G own) H v d) : Rp K x.src (Fo G own) H' v d :=
  h.keep (fun a o e n => k a o e (E.foS n)) (x.frz E.si k) fun _ z => .inl z
theorem ER.rpAll (E : ER K x O Pn gh G own σ H env) (k : Keep x.S H H') {v : List V} {d : List PyData} (h : RpAll K x.src (Fo G own) H v d) : RpAll K x.src (Fo G own) H' v d :=
  h.keep (fun a o e n => k a o e (E.foS n)) (x.frz E.si k) fun _ z => .inl z
theorem OwnAt.mono {K : PySem.W.Frag} {sc : Option Addr} {F F' : Addr → Prop} {H H' : Hp} {o : Option Addr} {v : V} {d : PyData} (h : OwnAt K sc F H o v d)
    (h1 : ∀ p xs, o = some p → H p = some (.lst xs) → H' p = some (.lst xs)) (h2 : ∀ xs ds, RpAll K sc F H xs ds → RpAll K sc F' H' xs ds) : OwnAt K sc F' H' o v d := by
  rcases h with ⟨p, xs, ds, e, ev, ed, hp, r⟩ | ⟨r, n⟩
  · exact .inl ⟨p, xs, ds, e, ev, ed, h1 p xs e hp, h2 _ _ r⟩
  · have z := h2 [v] [d] (.cons r .nil)
    cases z with
    | cons z _ => exact .inr ⟨z, n⟩
/-- behind an expression -/
theorem ER.keep (E : ER K x O Pn gh G own σ H env) (k : Keep x.S H H') (si : x.SI H') : ER K x O Pn gh G own σ H' env where
  si := si
  pin := fun a o h => k a o (E.pin a o h) (E.pinS a o h)
  pinS := E.pinS
  gS := E.gS
  gH := fun a h => by
    obtain ⟨o, e⟩ := E.gH a h
    by_cases z : x.S a
    · obtain ⟨o', e', _⟩ := x.there H' a si z
      exact ⟨o', e'⟩
    · exact ⟨o, k a o e z⟩
  len := E.len
  ownL := fun i p h => by
    obtain ⟨h1, h2, h3, xs, e⟩ := E.ownL i p h
    exact ⟨h1, h2, h3, xs, k p _ e fun z => h2 (E.gS p z)⟩
  inj := E.inj
  ghs := fun v d h => E.rp k (E.ghs v d h)
  slot := fun i d h => by
    obtain ⟨v, h1, h2⟩ := E.slot i d h
    refine ⟨v, h1, ?_⟩
    split
    · rename_i hO
      rw [if_pos hO] at h2
      exact h2.mono (fun p xs e hp => k p _ hp fun z => (E.ownL i p e).2.1 (E.gS p z)) fun xs ds r => E.rpAll k r
    · rename_i hO
      rw [if_neg hO] at h2
      exact E.rp k h2
/-- with other ghosts -/
theorem ER.ghosts {gh' : List (V × PyData)} (E : ER K x O Pn gh G own σ H env) (h : ∀ v d, (v, d) ∈ gh' → Rp K x.src (Fo G own) H v d) : ER K x O Pn gh' G own σ H env :=
  ⟨E.si, E.pin, E.pinS, E.gS, E.gH, E.len, E.ownL, E.inj, h, E.slot⟩
/-- slots forgotten, or as they were -/
theorem ER.weak {σ' : L2.St} {env' : Ev} (E : ER K x O Pn gh G own σ H env) (hl : σ'.length = env'.length) (h : ∀ (i : Nat) d, env'[i]? = some (some d) → env[i]? = some (some d) ∧ ∀ v, σ[i]? = some (some v) → σ'[i]? = some (some v)) : ER K x O Pn gh G own σ' H env' :=
  ⟨E.si, E.pin, E.pinS, E.gS, E.gH, hl, E.ownL, E.inj, E.ghs, fun i d e => by
    obtain ⟨e1, e2⟩ := h i d e
    obtain ⟨v, h1, h2⟩ := E.slot i d e1
    exact ⟨v, e2 v h1, h2⟩⟩
/-- a value put to a slot that owns nothing -/
theorem ER.put {i : Nat} {v : V} {d : PyData} (E : ER K x O Pn gh G own σ H env) (hO : O i = false) (h : Rp K x.src (Fo G own) H v d) : ER K x O Pn gh G own (σ.set i (some v)) H (env.set i (some d)) :=
  ⟨E.si, E.pin, E.pinS, E.gS, E.gH, by simp [E.len], E.ownL, E.inj, E.ghs, fun j e he => by
    by_cases hj : i = j
    · subst hj
      by_cases hl : i < env.length
      · rw [List.getElem?_set_self hl] at he
        cases he
        exact ⟨v, by rw [List.getElem?_set_self (by rw [E.len]; exact hl)], by rw [if_neg (by rw [hO]; exact Bool.false_ne_true)]; exact h⟩
      · rw [List.getElem?_eq_none (by simpa using hl)] at he; cases he
    · rw [List.getElem?_set_ne hj] at he
      obtain ⟨u, h1, h2⟩ := E.slot j e he
      exact ⟨u, by rw [List.getElem?_set_ne hj]; exact h1, h2⟩⟩
/-- what is no list, put to a slot that may own one -/
theorem ER.putT {i : Nat} {v : V} {d : PyData} (E : ER K x O Pn gh G own σ H env) (hO : O i = true) (h : Rp K x.src (Fo G own) H v d) (n : ∀ ds, d ≠ .list ds) : ER K x O Pn gh G own (σ.set i (some v)) H (env.set i (some d)) :=
  ⟨E.si, E.pin, E.pinS, E.gS, E.gH, by simp [E.len], E.ownL, E.inj, E.ghs, fun j e he => by
    by_cases hj : i = j
    · subst hj
      by_cases hl : i < env.length
      · rw [List.getElem?_set_self hl] at he
        cases he
        exact ⟨v, by rw [List.getElem?_set_self (by rw [E.len]; exact hl)], by rw [if_pos hO]; exact .inr ⟨h, n⟩⟩
      · rw [List.getElem?_eq_none (by simpa using hl)] at he; cases he
    · rw [List.getElem?_set_ne hj] at he
      obtain ⟨u, h1, h2⟩ := E.slot j e he
      exact ⟨u, by rw [List.getElem?_set_ne hj]; exact h1, h2⟩⟩
/-- a new list put to a slot that owns it -/
theorem ER.putOwn {i : Nat} {p : Addr} {xs : List V} {ds : List PyData} {H0 : Hp} (E : ER K x O Pn gh G own σ H0 env) (k : Keep x.S H0 H) (si : x.SI H) (hO : O i = true) (hp0 : H0 p = none) (hp : H p = some (.lst xs))
    (h : RpAll K x.src (fun a => Fo G own a ∨ a = p) H xs ds) : ER K x O Pn gh G (setOwn own i p) (σ.set i (some (.ref p))) H (env.set i (some (.list ds))) := by
  have sub : ∀ a, Fo G (setOwn own i p) a → Fo G own a ∨ a = p := fun a h => by
    rcases h with h | ⟨j, h⟩
    · exact .inl (.inl h)
    · by_cases hj : j = i
      · rw [hj, setOwn_self] at h; cases h; exact .inr rfl
      · rw [setOwn_ne hj] at h; exact .inl (.inr ⟨j, h⟩)
  have bar : ∀ {v d}, Rp K x.src (Fo G own) H0 v d → Rp K x.src (Fo G (setOwn own i p)) H v d := fun r =>
    r.keep (fun a o e n => k a o e (E.foS n)) (x.frz E.si k) fun a z => (sub a z).imp id fun e => by rw [e]; exact hp0
  have barA : ∀ {v d}, RpAll K x.src (Fo G own) H0 v d → RpAll K x.src (Fo G (setOwn own i p)) H v d := fun r =>
    r.keep (fun a o e n => k a o e (E.foS n)) (x.frz E.si k) fun a z => (sub a z).imp id fun e => by rw [e]; exact hp0
  have E1 := E.keep k si
  have np : ∀ j, own j ≠ some p := fun j z => by
    obtain ⟨_, _, _, ys, e⟩ := E.ownL j p z
    rw [hp0] at e; cases e
  refine ⟨si, E1.pin, E.pinS, E.gS, E1.gH, by simp [E.len], fun j q e => ?_, fun j l q e e' => ?_, fun v d hm => bar (E.ghs v d hm), fun j d he => ?_⟩
  · by_cases hj : j = i
    · rw [hj, setOwn_self] at e; cases e
      refine ⟨by rw [hj]; exact hO, fun z => ?_, fun o z => ?_, xs, hp⟩
      · obtain ⟨o, e⟩ := E.gH p z
        rw [hp0] at e; cases e
      · have e := E.pin p o z
        rw [hp0] at e; cases e
    · rw [setOwn_ne hj] at e; exact E1.ownL j q e
  · by_cases hj : j = i
    · by_cases hl : l = i
      · rw [hj, hl]
      · rw [hj, setOwn_self] at e; rw [setOwn_ne hl] at e'; cases e; exact absurd e' (np l)
    · by_cases hl : l = i
      · rw [setOwn_ne hj] at e; rw [hl, setOwn_self] at e'; cases e'; exact absurd e (np j)
      · rw [setOwn_ne hj] at e; rw [setOwn_ne hl] at e'; exact E.inj j l q e e'
  · by_cases hj : i = j
    · subst hj
      by_cases hl : i < env.length
      · rw [List.getElem?_set_self hl] at he
        cases he
        refine ⟨.ref p, by rw [List.getElem?_set_self (by rw [E.len]; exact hl)], ?_⟩
        rw [if_pos hO]
        exact .inl ⟨p, xs, ds, setOwn_self, rfl, rfl, hp, h.sub fun a z => .inl (sub a z)⟩
      · rw [List.getElem?_eq_none (by simpa using hl)] at he; cases he
    · rw [List.getElem?_set_ne hj] at he
      obtain ⟨u, h1, h2⟩ := E.slot j d he
      refine ⟨u, by rw [List.getElem?_set_ne hj]; exact h1, ?_⟩
      split
      · rename_i hOj
        rw [if_pos hOj] at h2
        rw [setOwn_ne (fun z => hj z.symm)]
        exact h2.mono (fun q ys e hq => k q _ hq fun z => (E.ownL j q e).2.1 (E.gS q z)) fun ys es r => barA r
      · rename_i hOj
        rw [if_neg hOj] at h2
        exact bar h2
/-- the list of a slot that owns it is changed -/
theorem ER.write {i : Nat} {p : Addr} {xs ys : List V} {es : List PyData} (E : ER K x O Pn gh G own σ H env) (ho : own i = some p) (hs : σ[i]? = some (some (.ref p))) (hp : H p = some (.lst xs))
    (h : RpAll K x.src (Fo G own) H ys es) : ER K x O Pn gh G own σ (upd H p (.lst ys)) (env.set i (some (.list es))) := by
  obtain ⟨hO, nG, nP, _⟩ := E.ownL i p ho
  have fp : Fo G own p := .inr ⟨i, ho⟩
  have bar : ∀ {v d}, Rp K x.src (Fo G own) H v d → Rp K x.src (Fo G own) (upd H p (.lst ys)) v d := fun r =>
    r.keep (fun a o e n => by rw [upd_ne (fun z => n (by rw [z]; exact fp))]; exact e) (frz_upd hp) fun a z => .inl z
  have barA : ∀ {v d}, RpAll K x.src (Fo G own) H v d → RpAll K x.src (Fo G own) (upd H p (.lst ys)) v d := fun r =>
    r.keep (fun a o e n => by rw [upd_ne (fun z => n (by rw [z]; exact fp))]; exact e) (frz_upd hp) fun a z => .inl z
  refine ⟨x.keep H _ E.si fun a ha => upd_ne fun z => nG (by rw [← z]; exact E.gS a ha), fun a o hn => ?_, E.pinS, E.gS, fun a hg => ?_, by simp [E.len], fun j q e => ?_, E.inj, fun v d hm => bar (E.ghs v d hm), fun j d he => ?_⟩
  · rw [upd_ne (fun z => nP o (by rw [← z]; exact hn))]
    exact E.pin a o hn
  · rw [upd_ne (fun z => nG (by rw [← z]; exact hg))]
    exact E.gH a hg
  · obtain ⟨h1, h2, h3, zs, e2⟩ := E.ownL j q e
    refine ⟨h1, h2, h3, ?_⟩
    by_cases hq : q = p
    · rw [hq]; exact ⟨ys, upd_same⟩
    · exact ⟨zs, by rw [upd_ne hq]; exact e2⟩
  · by_cases hj : i = j
    · subst hj
      by_cases hl : i < env.length
      · rw [List.getElem?_set_self hl] at he
        cases he
        refine ⟨.ref p, hs, ?_⟩
        rw [if_pos hO]
        exact .inl ⟨p, ys, es, ho, rfl, rfl, upd_same, barA h⟩
      · rw [List.getElem?_eq_none (by simpa using hl)] at he; cases he
    · rw [List.getElem?_set_ne hj] at he
      obtain ⟨u, h1, h2⟩ := E.slot j d he
      refine ⟨u, h1, ?_⟩
      split
      · rename_i hOj
        rw [if_pos hOj] at h2
        refine h2.mono (fun q zs e hq => ?_) fun zs fs r => barA r
        rw [upd_ne (fun z => hj (E.inj i j p ho (by rw [e, z])))]
        exact hq
      · rename_i hOj
        rw [if_neg hOj] at h2
        exact bar h2
end

/-! ### functional readings -/
abbrev FE_ := Ev → (PyData → Prop) → Prop
abbrev FT_ := Ev → (Bool → Prop) → Prop
abbrev FA_ := Ev → (List PyData → Prop) → Prop
structure FK where
  nx : Ev → Prop
  rt : PyData → Prop
  bk : Ev → Prop := fun _ => False
  ct : Ev → Prop := fun _ => False
abbrev FS_ := FK → Ev → Prop
abbrev FG_ := PyData → Ev → (Ev → Prop) → Prop

/-- a value by data; or a list of one's own (its items by data) -/
def RpB (K : PySem.W.Frag) (x : Sx) (F : Addr → Prop) (H : Hp) (v : V) (d : PyData) : Prop :=
  Rp K x.src F H v d ∨ ∃ p xs ds, v = .ref p ∧ d = .list ds ∧ H p = some (.lst xs) ∧ ¬ x.S p ∧ RpAll K x.src F H xs ds

section
variable (K : PySem.W.Frag) (x : Sx) (O : Nat → Bool)
/-- an operand: it may be a list of one's own -/
def tFB (f : FE_) : TE := fun σ H Q => ∃ Pn gh G own env P, ER K x O Pn gh G own σ H env ∧ f env P ∧ ∀ d, P d → ∀ v H', Keep x.S H H' → x.SI H' → RpB K x (Fo G own) H' v d → Q v H'
/-- a value -/
def tFE (f : FE_) : TE := fun σ H Q => ∃ Pn gh G own env P, ER K x O Pn gh G own σ H env ∧ f env P ∧ ∀ d, P d → ∀ v H', Keep x.S H H' → x.SI H' → Rp K x.src (Fo G own) H' v d → Q v H'
/-- a new list -/
def tFN (f : FA_) : TE := fun σ H Q => ∃ Pn gh G own env P, ER K x O Pn gh G own σ H env ∧ f env P ∧ ∀ ds, P ds → ∀ p xs H', Keep x.S H H' → x.SI H' → H p = none → H' p = some (.lst xs) →
  RpAll K x.src (fun a => Fo G own a ∨ a = p) H' xs ds → Q (.ref p) H'
def tFT (f : FT_) : TT := fun σ H Q => ∃ Pn gh G own env P, ER K x O Pn gh G own σ H env ∧ f env P ∧ ∀ b, P b → ∀ H', Keep x.S H H' → x.SI H' → Q b H'
def tFA (f : FA_) : TA := fun σ H Q => ∃ Pn gh G own env P, ER K x O Pn gh G own σ H env ∧ f env P ∧ ∀ ds, P ds → ∀ vs H', Keep x.S H H' → x.SI H' → RpAll K x.src (Fo G own) H' vs ds → Q vs H'
/-- arguments of a built-in -/
def RpBAll (F : Addr → Prop) (H : Hp) : List V → List PyData → Prop
  | [], [] => True
  | v :: vs, d :: ds => RpB K x F H v d ∧ RpBAll F H vs ds
  | _, _ => False
def tFAB (f : FA_) : TA := fun σ H Q => ∃ Pn gh G own env P, ER K x O Pn gh G own σ H env ∧ f env P ∧ ∀ ds, P ds → ∀ vs H', Keep x.S H H' → x.SI H' → RpBAll K x (Fo G own) H' vs ds → Q vs H'
def tFS (g : FS_) : TS := fun D σ H => ∃ Pn gh G own env k, ER K x O Pn gh G own σ H env ∧ g k env ∧
  (∀ env', k.nx env' → ∀ σ' H' own', ER K x O Pn gh G own' σ' H' env' → D.nx σ' H') ∧
  (∀ d, k.rt d → ∀ v H', x.SI H' → (∀ a o, Pn a o → H' a = some o) → Rp K x.src G H' v d → D.rt v H') ∧
  (∀ env', k.bk env' → ∀ σ' H' own', ER K x O Pn gh G own' σ' H' env' → D.bk σ' H') ∧
  (∀ env', k.ct env' → ∀ σ' H' own', ER K x O Pn gh G own' σ' H' env' → D.ct σ' H')
def tFG (g : FG_) : TG := fun v σ H Q => ∃ Pn gh G own env d P, ER K x O Pn gh G own σ H env ∧ Rp K x.src (Fo G own) H v d ∧ g d env P ∧ ∀ env', P env' → ∀ σ', ER K x O Pn gh G own σ' H env' → Q σ' H
end
abbrev FB (x : Sx) (O : Nat → Bool) (X : Cx) (e : Expr) (f : FE_) : Prop := PE X e (tFB X.K x O f)
abbrev FE (x : Sx) (O : Nat → Bool) (X : Cx) (e : Expr) (f : FE_) : Prop := PE X e (tFE X.K x O f)
abbrev FN (x : Sx) (O : Nat → Bool) (X : Cx) (e : Expr) (f : FA_) : Prop := PE X e (tFN X.K x O f)
abbrev FT (x : Sx) (O : Nat → Bool) (X : Cx) (e : Expr) (f : FT_) : Prop := PT X e (tFT X.K x O f)
abbrev FW (x : Sx) (O : Nat → Bool) (X : Cx) (e : Expr) (f : FT_) : Prop := PW X e (tFT X.K x O f)
abbrev FA (x : Sx) (O : Nat → Bool) (X : Cx) (es : List Expr) (f : FA_) : Prop := PA X es (tFA X.K x O f)
abbrev FAB (x : Sx) (O : Nat → Bool) (X : Cx) (es : List Expr) (f : FA_) : Prop := PA X es (tFAB X.K x O f)
abbrev FS (x : Sx) (O : Nat → Bool) (X : Cx) (s : Stmt) (g : FS_) : Prop := PS X s (tFS X.K x O g)
abbrev FSs (x : Sx) (O : Nat → Bool) (X : Cx) (s : List Stmt) (g : FS_) : Prop := PSs X s (tFS X.K x O g)
abbrev FG (x : Sx) (O : Nat → Bool) (X : Cx) (e : Expr) (g : FG_) : Prop := PG X e (tFG X.K x O g)

/-! ### a stronger reading -/
section
variable {X : Cx} {e : Expr}
theorem _root_.L2.PE.imp {t t' : TE} (h : PE X e t) (i : ∀ σ H Q, t' σ H Q → t σ H Q) : PE X e t' := ⟨fun pins s σ H Q I q => h.run pins s σ H Q I (i _ _ _ q)⟩
theorem _root_.L2.PT.imp {t t' : TT} (h : PT X e t) (i : ∀ σ H Q, t' σ H Q → t σ H Q) : PT X e t' := ⟨fun pins s σ H Q I q => h.run pins s σ H Q I (i _ _ _ q)⟩
theorem _root_.L2.PW.imp {t t' : TT} (h : PW X e t) (i : ∀ σ H Q, t' σ H Q → t σ H Q) : PW X e t' := ⟨fun wh pins s σ H Q I q => h.run wh pins s σ H Q I (i _ _ _ q)⟩
theorem _root_.L2.PA.imp {es : List Expr} {t t' : TA} (h : PA X es t) (i : ∀ σ H Q, t' σ H Q → t σ H Q) : PA X es t' := ⟨fun pos pins s σ H Q I q => h.run pos pins s σ H Q I (i _ _ _ q)⟩
theorem _root_.L2.PS.imp {st : Stmt} {t t' : TS} (h : PS X st t) (i : ∀ D σ H, t' D σ H → t D σ H) : PS X st t' := ⟨fun pins s σ H D I q => h.run pins s σ H D I (i _ _ _ q)⟩
theorem _root_.L2.PSs.imp {st : List Stmt} {t t' : TS} (h : PSs X st t) (i : ∀ D σ H, t' D σ H → t D σ H) : PSs X st t' := ⟨fun pins s σ H D I q => h.run pins s σ H D I (i _ _ _ q)⟩
theorem _root_.L2.PG.imp {t t' : TG} (h : PG X e t) (i : ∀ v σ H Q, t' v σ H Q → t v σ H Q) : PG X e t' := ⟨fun pins s σ H v u Q I r q => h.run pins s σ H v u Q I r (i _ _ _ _ q)⟩
end
end FL

/-! F2: expressions. -/
namespace FL
open PySem PySem.Spec PyProof.Rows L2
/-- is None -/
def isNoneD : PyData → Bool
  | .none => true
  | _ => false

section
variable {K : PySem.W.Frag} {x : Sx} {F F' : Addr → Prop} {H H' : Hp} {O : Nat → Bool}
theorem RpB.of {v : V} {d : PyData} (h : Rp K x.src F H v d) : RpB K x F H v d := .inl h
theorem RpB.dp {v : V} {d : PyData} (h : RpB K x F H v d) (e : plain d = true) : Dp K H v d := by
  rcases h with h | ⟨p, xs, ds, rfl, rfl, hp, _, r⟩
  · exact h.dp e
  · exact .lst (SqL.of hp) (r.dp (by simpa [plain] using e))
/-- read as a list -/
theorem RpB.lst {v : V} {ds : List PyData} (h : RpB K x F H v (.list ds)) : ∃ p xs, v = .ref p ∧ H p = some (.lst xs) ∧ RpAll K x.src F H xs ds := by
  rcases h with h | ⟨p, xs, ds', rfl, e, hp, _, r⟩
  · cases h with
    | lst h n r => exact ⟨_, _, rfl, h, r⟩
  · cases e; exact ⟨p, xs, rfl, hp, r⟩
theorem RpB.tup {v : V} {ds : List PyData} (h : RpB K x F H v (.tuple ds)) : ∃ p o xs, v = .ref p ∧ H p = some (.frz o (.tup xs)) ∧ o.dict = none ∧ RpAll K x.src F H xs ds := by
  rcases h with h | ⟨p, xs, ds', rfl, e, hp, _, r⟩
  · cases h with
    | tup h hd r => exact ⟨_, _, _, rfl, h, hd, r⟩
  · cases e
theorem sqT_of {p : Addr} {o : Obj} {xs : List V} (h : H p = some (.frz o (.tup xs))) : SqT K H p xs := .inl (.inr ⟨o, h⟩)
theorem RpB.int {v : V} {i : Int} (h : RpB K x F H v (.int i)) : v = .int i := by
  rcases h with h | ⟨p, xs, ds', rfl, e, hp, _, r⟩
  · cases h; rfl
  · cases e
theorem RpB.bl {v : V} {i : Bool} (h : RpB K x F H v (.bool i)) : v = .bl i := by
  rcases h with h | ⟨p, xs, ds', rfl, e, hp, _, r⟩
  · cases h; rfl
  · cases e
theorem RpB.str {v : V} {i : Str} (h : RpB K x F H v (.str i)) : v = .str i := by
  rcases h with h | ⟨p, xs, ds', rfl, e, hp, _, r⟩
  · cases h; rfl
  · cases e
theorem RpB.non {v : V} (h : RpB K x F H v .none) : v = .non := by
  rcases h with h | ⟨p, xs, ds', rfl, e, hp, _, r⟩
  · cases h; rfl
  · cases e
theorem RpB.isNon {v : V} {d : PyData} (h : RpB K x F H v d) : decide (v = .non) = isNoneD d := by
  rcases h with h | ⟨p, xs, ds', rfl, e, hp, _, r⟩
  · cases h <;> rfl
  · cases e; rfl
theorem Rp.toB {v : V} {d : PyData} (h : Rp K x.src F H v d) : RpB K x F H v d := .inl h
theorem RpAll.toB : ∀ {v : List V} {d : List PyData}, RpAll K x.src F H v d → RpBAll K x F H v d
  | _, _, .nil => trivial
  | _, _, .cons h r => ⟨.inl h, RpAll.toB r⟩
/-- a value as it was, behind more evaluation -/
theorem ER.rpB {Pn : Addr → HO → Prop} {gh : List (V × PyData)} {G : Addr → Prop} {own : Nat → Option Addr} {σ : L2.St} {env : Ev} (E : ER K x O Pn gh G own σ H env) (k : Keep x.S H H') {v : V} {d : PyData} (h : RpB K x (Fo G own) H v d) : RpB K x (Fo G own) H' v d := by
  rcases h with h | ⟨p, xs, ds, e1, e2, hp, n, r⟩
  · exact .inl (E.rp k h)
  · exact .inr ⟨p, xs, ds, e1, e2, k p _ hp n, n, E.rpAll k r⟩
end

section
variable {X : Cx} {x : Sx} {O : Nat → Bool} {pos : Pos} {a b c e : Expr} {fa fb fc : FE_} {na : FA_}

theorem fb_of (h : FE x O X e fa) : FB x O X e fa := h.imp fun σ H Q ⟨Pn, gh, G, own, env, P, E, q, k⟩ => ⟨Pn, gh, G, own, env, P, E, q, fun d p v H' kk si r => k d p v H' kk si (.inl r)⟩

/-! ### names, constants -/
def fVar (i : Nat) : FE_ := fun env P => match env[i]? with
  | some (some d) => P d
  | _ => False
theorem fVar_get {i : Nat} {env : Ev} {P : PyData → Prop} (h : fVar i env P) : ∃ d, env[i]? = some (some d) ∧ P d := by
  unfold fVar at h
  split at h
  · exact ⟨_, by assumption, h⟩
  · exact h.elim
theorem fe_var (i : Nat) {nm : Str} (hO : O i = false := by rfl) (hN : X.N[i]? = some nm := by rfl) (hv : Vis X.env.scope nm := by first | exact Or.inl rfl | exact Or.inr (Or.inl rfl) | exact Or.inr (Or.inr rfl)) (hd : (nm == ("__debug__" : Str)) = false := by decide)
    (hcd : (nm == ("__classdict__" : Str)) = false := by decide) : FE x O X (.Name nm pos) (fVar i) :=
  (pe_var hN hv hd hcd).imp fun σ H Q ⟨Pn, gh, G, own, env, P, E, q, k⟩ => by
    obtain ⟨d, e, p⟩ := fVar_get q
    obtain ⟨v, h1, h2⟩ := E.slot i d e
    rw [if_neg (by rw [hO]; exact Bool.false_ne_true)] at h2
    exact ⟨v, h1, k d p v H (Keep.refl _ _) E.si h2⟩
/-- a list of one's own, to be read -/
theorem fb_own (i : Nat) {nm : Str} (hO : O i = true := by rfl) (hN : X.N[i]? = some nm := by rfl) (hv : Vis X.env.scope nm := by first | exact Or.inl rfl | exact Or.inr (Or.inl rfl) | exact Or.inr (Or.inr rfl)) (hd : (nm == ("__debug__" : Str)) = false := by decide)
    (hcd : (nm == ("__classdict__" : Str)) = false := by decide) : FB x O X (.Name nm pos) (fVar i) :=
  (pe_var hN hv hd hcd).imp fun σ H Q ⟨Pn, gh, G, own, env, P, E, q, k⟩ => by
    obtain ⟨d, e, p⟩ := fVar_get q
    obtain ⟨v, h1, h2⟩ := E.slot i d e
    rw [if_pos hO] at h2
    rcases h2 with ⟨a, xs, ds, ho, ev, ed, hp, r⟩ | ⟨r, n⟩
    · exact ⟨v, h1, k d p v H (Keep.refl _ _) E.si (.inr ⟨a, xs, ds, ev, ed, hp, fun z => (E.ownL i a ho).2.1 (E.gS a z), r⟩)⟩
    · exact ⟨v, h1, k d p v H (Keep.refl _ _) E.si (.inl r)⟩
/-- .. where no list stands in it -/
def fVarT (i : Nat) : FE_ := fun env P => fVar i env fun d => (∀ ds, d ≠ .list ds) ∧ P d
theorem fe_varT (i : Nat) {nm : Str} (hO : O i = true := by rfl) (hN : X.N[i]? = some nm := by rfl) (hv : Vis X.env.scope nm := by first | exact Or.inl rfl | exact Or.inr (Or.inl rfl) | exact Or.inr (Or.inr rfl)) (hd : (nm == ("__debug__" : Str)) = false := by decide)
    (hcd : (nm == ("__classdict__" : Str)) = false := by decide) : FE x O X (.Name nm pos) (fVarT i) :=
  (pe_var hN hv hd hcd).imp fun σ H Q ⟨Pn, gh, G, own, env, P, E, q, k⟩ => by
    obtain ⟨d, e, n, p⟩ := fVar_get q
    obtain ⟨v, h1, h2⟩ := E.slot i d e
    rw [if_pos hO] at h2
    rcases h2 with ⟨a, xs, ds, ho, ev, ed, hp, r⟩ | ⟨r, _⟩
    · exact absurd ed (n ds)
    · exact ⟨v, h1, k d p v H (Keep.refl _ _) E.si r⟩
def fC (d : PyData) : FE_ := fun _ P => P d
theorem fe_int {i : Int} {j : Nat} : FE x O X (.Constant (.int i) j pos) (fC (.int i)) := pe_int.imp fun σ H Q ⟨Pn, gh, G, own, env, P, E, q, k⟩ => k _ q _ H (Keep.refl _ _) E.si (.int i)
theorem fe_bl {i : Bool} {j : Nat} : FE x O X (.Constant (.bool i) j pos) (fC (.bool i)) := pe_bl.imp fun σ H Q ⟨Pn, gh, G, own, env, P, E, q, k⟩ => k _ q _ H (Keep.refl _ _) E.si (.bl i)
theorem fe_str {i : Str} {j : Nat} : FE x O X (.Constant (.str i) j pos) (fC (.str i)) := pe_str.imp fun σ H Q ⟨Pn, gh, G, own, env, P, E, q, k⟩ => k _ q _ H (Keep.refl _ _) E.si (.str i)
theorem fe_non {j : Nat} : FE x O X (.Constant .none j pos) (fC .none) := pe_non.imp fun σ H Q ⟨Pn, gh, G, own, env, P, E, q, k⟩ => k _ q _ H (Keep.refl _ _) E.si .non

/-! ### operators -/
abbrev S2_ := PyData → PyData → (PyData → Prop) → Prop
def fOp (s : S2_) (fa fb : FE_) : FE_ := fun env P => fa env fun d => fb env fun e => s d e P
def Op2 (X : Cx) (x : Sx) (r : R2) (s : S2_) : Prop := ∀ (F : Addr → Prop) (H : Hp) (v w : V) (d e : PyData) (P : PyData → Prop) (Q : VK), x.SI H → (∀ a, x.S a → F a) → (∀ a, F a → ∃ o, H a = some o) →
  RpB X.K x F H v d → RpB X.K x F H w e → s d e P → (∀ d', P d' → ∀ u H', Same H H' → Rp X.K x.src F H' u d' → Q u H') → r v w H Q
theorem op2_go {r : R2} {s : S2_} (hs : Op2 X x r s) {σ : L2.St} {H : Hp} {Q : VK} (h : tFE X.K x O (fOp s fa fb) σ H Q) : tOp r (tFB X.K x O fa) (tFB X.K x O fb) σ H Q := by
  obtain ⟨Pn, gh, G, own, env, P, E, q, k⟩ := h
  refine ⟨Pn, gh, G, own, env, _, E, q, fun d q1 v H1 k1 s1 r1 => ?_⟩
  have E1 := E.keep k1 s1
  refine ⟨Pn, gh, G, own, env, _, E1, q1, fun e q2 w H2 k2 s2 r2 => ?_⟩
  have E2 := E1.keep k2 s2
  exact hs (Fo G own) H2 v w d e P Q s2 (fun a z => .inl (E.gS a z)) (fun a z => E2.foH z) (E1.rpB k2 r1) r2 q2 fun d' p u H' sm rr => k d' p u H' ((k1.trans k2).trans (Keep.of_same sm)) (x.same s2 sm) rr
theorem fe_op {op : Operator} {r : R2} {s : S2_} (ho : OpR X (binaryOp op) r) (hs : Op2 X x r s) (ha : FB x O X a fa) (hb : FB x O X b fb) : FE x O X (.BinOp a op b pos) (fOp s fa fb) :=
  (pe_op ho ha hb).imp fun _ _ _ h => op2_go hs h
theorem fe_cmp {op : CmpOp} {r : R2} {s : S2_} (ho : OpR X (compareOp op) r) (hs : Op2 X x r s) (hm : behindInMarks op b = false) (ha : FB x O X a fa) (hb : FB x O X b fb) : FE x O X (.Compare a [op] [b] pos) (fOp s fa fb) :=
  (pe_cmpR ho ha hb hm).imp fun _ _ _ h => op2_go hs h
def fTest (f : FE_) : FT_ := fun env P => f env fun d => match d with
  | .bool b => P b
  | _ => False
theorem fTest_get {d : PyData} {P : Bool → Prop} (h : match d with | .bool b => P b | _ => False) : ∃ b, d = .bool b ∧ P b := by
  cases d <;> first | exact ⟨_, rfl, h⟩ | exact h.elim
theorem test_go {t : TE} {f : FE_} (i : ∀ σ H Q, tFE X.K x O f σ H Q → t σ H Q) {σ : L2.St} {H : Hp} {Q : Bool → Hp → Prop} (h : tFT X.K x O (fTest f) σ H Q) : tTest t σ H Q := by
  obtain ⟨Pn, gh, G, own, env, P, E, q, k⟩ := h
  refine i _ _ _ ⟨Pn, gh, G, own, env, _, E, q, fun d q1 v H1 k1 s1 r1 => ?_⟩
  obtain ⟨b, rfl, p⟩ := fTest_get q1
  cases r1
  exact ⟨b, rfl, k b p H1 k1 s1⟩
theorem ft_cmp {op : CmpOp} {r : R2} {s : S2_} (ho : OpR X (compareOp op) r) (hs : Op2 X x r s) (hm : behindInMarks op b = false) (ha : FB x O X a fa) (hb : FB x O X b fb) : FT x O X (.Compare a [op] [b] pos) (fTest (fOp s fa fb)) :=
  (pt_cmpR ho ha hb hm).imp fun _ _ _ h => test_go (t := tOp r (tFB X.K x O fa) (tFB X.K x O fb)) (fun _ _ _ z => op2_go hs z) h
/-- an expression that gives a bool, as a test -/
theorem ft_val {f : FE_} (h : FE x O X e f) (he : ∀ whole, isTrue e X.env whole = (do let v ← whole; standAt e.pos; holding [v] (truthy v)) := by intro _; rfl) : FT x O X e (fTest f) :=
  (pt_val h he).imp fun _ _ _ h => test_go (fun _ _ _ z => z) h

def sAdd : S2_ := fun d e P => match d, e with
  | .int i, .int j => P (.int (i + j))
  | .list xs, .list ys => xs.length + ys.length ≤ 16777216 ∧ P (.list (xs ++ ys))
  | .tuple xs, .tuple ys => xs.length + ys.length ≤ 16777216 ∧ P (.tuple (xs ++ ys))
  | .str a, .str b => a.length + b.length ≤ 16777216 ∧ P (.str (a ++ b))
  | _, _ => False
theorem line_ok {n : Nat} (h : n ≤ 16777216) : n ≤ sizeLine := by rw [sizeLine_eq]; exact h
theorem rp_newL {K : PySem.W.Frag} {sc : Option Addr} {F : Addr → Prop} {H : Hp} {p : Addr} {xs : List V} {ds : List PyData} (hF : ∀ a, F a → ∃ o, H a = some o) (hp : H p = none) (r : RpAll K sc F H xs ds) : Rp K sc F (upd H p (.lst xs)) (.ref p) (.list ds) :=
  .lst upd_same (fun z => by obtain ⟨o, e⟩ := hF p z; rw [hp] at e; cases e) (r.keep (fun a o e _ => same_upd hp a o e) (fun a _ ys e => same_upd hp a _ e) fun a z => .inl z)
theorem rp_newT {K : PySem.W.Frag} {sc : Option Addr} {F : Addr → Prop} {H : Hp} {p : Addr} {o : Obj} {xs : List V} {ds : List PyData} (hp : H p = none) (hd : o.dict = none) (r : RpAll K sc F H xs ds) : Rp K sc F (upd H p (.frz o (.tup xs))) (.ref p) (.tuple ds) :=
  .tup upd_same hd (r.keep (fun a o e _ => same_upd hp a o e) (fun a _ ys e => same_upd hp a _ e) fun a z => .inl z)
/-- t + u -/
def rCatF (K : PySem.W.Frag) : R2 := fun x y H Q => ∃ a b xs ys, x = .ref a ∧ y = .ref b ∧ SqT K H a xs ∧ SqT K H b ys ∧ xs.length + ys.length ≤ sizeLine ∧
  (xs = [] → Q (.ref b) H) ∧ (xs ≠ [] → ys = [] → Q (.ref a) H) ∧ (xs ≠ [] → ys ≠ [] → ∀ p o, H p = none → o.dict = none → Q (.ref p) (upd H p (.frz o (.tup (xs ++ ys)))))
theorem op_catF : OpR X (binaryOp .Add) (rCatF X.K) := by
  intro pins s σ H x y v u Q I rx ry h
  obtain ⟨a, b, xs, ys, rfl, rfl, ha, hb, hz, q0, q1, q2⟩ := h
  cases rx
  cases ry
  obtain ⟨its, r1, p1, _⟩ := I.tuple ha
  obtain ⟨its2, r2, p2, _⟩ := I.tuple hb
  by_cases hx : xs = []
  · subst hx
    cases r1
    exact cat_tup0 p1 p2 ⟨.ref b, H, I, rfl, q0 rfl⟩
  · have hl1 := r1.length
    have hl2 := r2.length
    refine HT.cat_tup p1 p2 (fun e => hx (r1.nil_iff.mp e)) (fun e => ⟨.ref a, H, I, rfl, q1 hx (r2.nil_iff.mp e)⟩) (fun e => ?_) (by omega)
    have fr := I.hok.fresh (Nat.le_refl s.heap.objs.size)
    refine ⟨.ref s.heap.objs.size, upd H s.heap.objs.size (.frz { cls := .type "tuple", data := .seq (its ++ its2).toArray } (.tup (xs ++ ys))), I.laid (t' := s.toks) (fun b u e => Heap.get?_push_of_some _ e) (Nat.le_refl _) ?_, rfl, q2 hx (fun e' => e (r2.nil_iff.mpr e')) _ _ fr rfl⟩
    exact ⟨Heap.get?_push_size _ rfl, by rw [List.length_append]; exact hz, _, r1.append r2, ⟨_, Heap.get?_push_size _ rfl, rfl, _, rfl⟩⟩
theorem op_addAll : OpR X (binaryOp .Add) (fun v w H Q => rI0 (fun i j => .int (i + j)) v w H Q ∨ (rCat v w H Q ∨ (rCatF X.K v w H Q ∨ ∃ i j, v = .str i ∧ w = .str j ∧ i.length + j.length ≤ sizeLine ∧ Q (.str (i ++ j)) H))) := op_add.or (op_cat.or (op_catF.or op_add_str))
theorem s_add : Op2 X x (fun v w H Q => rI0 (fun i j => .int (i + j)) v w H Q ∨ (rCat v w H Q ∨ (rCatF X.K v w H Q ∨ ∃ i j, v = .str i ∧ w = .str j ∧ i.length + j.length ≤ sizeLine ∧ Q (.str (i ++ j)) H))) sAdd := by
  intro F H v w d e P Q si hS hF rv rw_ h k
  unfold sAdd at h
  split at h
  · exact .inl ⟨_, _, rv.int, rw_.int, k _ h _ H (Same.refl H) (.int _)⟩
  · obtain ⟨p, xs, rfl, hp, r⟩ := rv.lst
    obtain ⟨p', xs', rfl, hp', r'⟩ := rw_.lst
    refine .inr (.inl ⟨p, p', xs, xs', rfl, rfl, hp, hp', line_ok (by rw [r.length, r'.length]; exact h.1), fun q hq => k _ h.2 _ _ (same_upd hq) (rp_newL hF hq (r.append r'))⟩)
  · obtain ⟨p, o, xs, rfl, hp, hd, r⟩ := rv.tup
    obtain ⟨p', o', xs', rfl, hp', hd', r'⟩ := rw_.tup
    refine .inr (.inr (.inl ⟨p, p', xs, xs', rfl, rfl, sqT_of hp, sqT_of hp', line_ok (by rw [r.length, r'.length]; exact h.1), fun ex => ?_, fun _ ey => ?_, fun _ _ q ob hq hdq => k _ h.2 _ _ (same_upd hq) (rp_newT hq hdq (r.append r'))⟩))
    · subst ex
      cases r
      exact k _ h.2 _ _ (Same.refl H) (.tup hp' hd' r')
    · subst ey
      cases r'
      refine k _ h.2 _ _ (Same.refl H) ?_
      rw [List.append_nil]
      exact .tup hp hd r
  · exact .inr (.inr (.inr ⟨_, _, rv.str, rw_.str, line_ok h.1, k _ h.2 _ H (Same.refl H) (.str _)⟩))
  · exact h.elim
def sI2 (C : Int → Int → Prop) (g : Int → Int → PyData) : S2_ := fun d e P => match d, e with
  | .int i, .int j => C i j ∧ P (g i j)
  | _, _ => False
theorem s_int {C : Int → Int → Prop} {g : Int → Int → Int} : Op2 X x (rI C fun i j => .int (g i j)) (sI2 C fun i j => .int (g i j)) := by
  intro F H v w d e P Q si hS hF rv rw_ h k
  unfold sI2 at h
  split at h
  · exact ⟨_, _, rv.int, rw_.int, h.1, k _ h.2 _ H (Same.refl H) (.int _)⟩
  · exact h.elim
theorem s_int0 {g : Int → Int → Int} : Op2 X x (rI0 fun i j => .int (g i j)) (fun d e P => match d, e with | .int i, .int j => P (.int (g i j)) | _, _ => False) := by
  intro F H v w d e P Q si hS hF rv rw_ h k
  split at h
  · exact ⟨_, _, rv.int, rw_.int, k _ h _ H (Same.refl H) (.int _)⟩
  · exact h.elim
def sSub : S2_ := fun d e P => match d, e with
  | .int i, .int j => P (.int (i - j))
  | _, _ => False
theorem s_sub : Op2 X x (rI0 fun i j => .int (i - j)) sSub := s_int0
abbrev sFdiv : S2_ := sI2 CDiv fun i j => .int (i / j)
theorem s_fdiv : Op2 X x (rI CDiv fun i j => .int (i / j)) sFdiv := s_int
abbrev sMod : S2_ := sI2 (fun _ j => 0 < j) fun i j => .int (i % j)
theorem s_mod : Op2 X x (rI (fun _ j => 0 < j) fun i j => .int (i % j)) sMod := s_int
abbrev sPow : S2_ := sI2 CPow fun i j => .int (i ^ j.toNat)
theorem s_pow : Op2 X x (rI CPow fun i j => .int (i ^ j.toNat)) sPow := s_int
/-- a comparison of two ints -/
def sB2 (g : Int → Int → Bool) : S2_ := fun d e P => match d, e with
  | .int i, .int j => P (.bool (g i j))
  | _, _ => False
theorem s_cmp {g : Int → Int → Bool} : Op2 X x (rI0 fun i j => .bl (g i j)) (sB2 g) := by
  intro F H v w d e P Q si hS hF rv rw_ h k
  unfold sB2 at h
  split at h
  · exact ⟨_, _, rv.int, rw_.int, k _ h _ H (Same.refl H) (.bl _)⟩
  · exact h.elim
abbrev sLt : S2_ := sB2 fun i j => decide (i < j)
abbrev sLe : S2_ := sB2 fun i j => decide (i ≤ j)
abbrev sGt : S2_ := sB2 fun i j => decide (j < i)
abbrev sGe : S2_ := sB2 fun i j => decide (j ≤ i)
/-- no dict, not too deep -/
def Fit (d : PyData) : Prop := SeqAt.shaped d = true
mutual
theorem plain_of : ∀ {d : PyData}, d.canLay0 = true → plain d = true
  | .none, _ => rfl
  | .bool _, _ => rfl
  | .int _, _ => rfl
  | .str _, _ => rfl
  | .list ds, h => by simp only [plain]; exact plainAll_of (by simpa [PyData.canLay0] using h)
  | .tuple ds, h => by simp only [plain]; exact plainAll_of (by simpa [PyData.canLay0] using h)
  | .dict _, h => by simp [PyData.canLay0] at h
theorem plainAll_of : ∀ {ds : List PyData}, PyData.canLayAll0 ds = true → plainAll ds = true
  | [], _ => rfl
  | d :: ds, h => by
    have h' : d.canLay0 = true ∧ PyData.canLayAll0 ds = true := by simpa [PyData.canLayAll0] using h
    simp only [plainAll, plain_of h'.1, plainAll_of h'.2, Bool.and_self]
end
theorem Fit.plain {d : PyData} (h : Fit d) : plain d = true := plain_of (SeqAt.canLay_of_shaped h)
def sEq : S2_ := fun d e P => Fit d ∧ Fit e ∧ P (.bool (PyData.eqv d e))
def sNe : S2_ := fun d e P => Fit d ∧ Fit e ∧ P (.bool (!PyData.eqv d e))
theorem s_eq : Op2 X x (rEqD X.K) sEq := by
  intro F H v w d e P Q si hS hF rv rw_ ⟨h1, h2, h⟩ k
  exact ⟨d, e, rv.dp h1.plain, rw_.dp h2.plain, h1, h2, k _ h _ H (Same.refl H) (.bl _)⟩
theorem s_ne : Op2 X x (rNeD X.K) sNe := by
  intro F H v w d e P Q si hS hF rv rw_ ⟨h1, h2, h⟩ k
  exact ⟨d, e, rv.dp h1.plain, rw_.dp h2.plain, h1, h2, k _ h _ H (Same.refl H) (.bl _)⟩
def fIsN (fa : FE_) : FE_ := fun env P => fa env fun d => P (.bool (isNoneD d))
def fNotN (fa : FE_) : FE_ := fun env P => fa env fun d => P (.bool (!isNoneD d))
theorem isN_go {σ : L2.St} {H : Hp} {Q : VK} (h : tFE X.K x O (fIsN fa) σ H Q) : tIsN (tFB X.K x O fa) σ H Q := by
  obtain ⟨Pn, gh, G, own, env, P, E, q, k⟩ := h
  refine ⟨Pn, gh, G, own, env, _, E, q, fun d q1 v H1 k1 s1 r1 => ?_⟩
  show Q (V.bl (decide (v = V.non))) H1
  rw [r1.isNon]
  exact k _ q1 _ H1 k1 s1 (.bl _)
theorem notN_go {σ : L2.St} {H : Hp} {Q : VK} (h : tFE X.K x O (fNotN fa) σ H Q) : tNotN (tFB X.K x O fa) σ H Q := by
  obtain ⟨Pn, gh, G, own, env, P, E, q, k⟩ := h
  refine ⟨Pn, gh, G, own, env, _, E, q, fun d q1 v H1 k1 s1 r1 => ?_⟩
  show Q (V.bl (!decide (v = V.non))) H1
  rw [r1.isNon]
  exact k _ q1 _ H1 k1 s1 (.bl _)
theorem fe_isN {j : Nat} {p2 : Pos} (ha : FB x O X a fa) : FE x O X (.Compare a [.Is] [.Constant .none j p2] pos) (fIsN fa) := (pe_cmp (pc_isN ha) rfl).imp fun _ _ _ h => isN_go h
theorem fe_notN {j : Nat} {p2 : Pos} (ha : FB x O X a fa) : FE x O X (.Compare a [.IsNot] [.Constant .none j p2] pos) (fNotN fa) := (pe_cmp (pc_notN ha) rfl).imp fun _ _ _ h => notN_go h
theorem ft_isN {j : Nat} {p2 : Pos} (ha : FB x O X a fa) : FT x O X (.Compare a [.Is] [.Constant .none j p2] pos) (fTest (fIsN fa)) := (pt_cmp (pc_isN ha) rfl).imp fun _ _ _ h => test_go (t := tIsN (tFB X.K x O fa)) (fun _ _ _ z => isN_go z) h
theorem ft_notN {j : Nat} {p2 : Pos} (ha : FB x O X a fa) : FT x O X (.Compare a [.IsNot] [.Constant .none j p2] pos) (fTest (fNotN fa)) := (pt_cmp (pc_notN ha) rfl).imp fun _ _ _ h => test_go (t := tNotN (tFB X.K x O fa)) (fun _ _ _ z => notN_go z) h
/-- is True, is not True (bools) -/
def sIsB : S2_ := fun d e P => match d, e with
  | .bool i, .bool j => P (.bool (decide (i = j)))
  | _, _ => False
def sNotB : S2_ := fun d e P => match d, e with
  | .bool i, .bool j => P (.bool (!decide (i = j)))
  | _, _ => False
theorem s_isB : Op2 X x rIsB sIsB := by
  intro F H v w d e P Q si hS hF rv rw_ h k
  unfold sIsB at h
  split at h
  · exact ⟨_, _, rv.bl, rw_.bl, k _ h _ H (Same.refl H) (.bl _)⟩
  · exact h.elim
theorem s_notB : Op2 X x rNotB sNotB := by
  intro F H v w d e P Q si hS hF rv rw_ h k
  unfold sNotB at h
  split at h
  · exact ⟨_, _, rv.bl, rw_.bl, k _ h _ H (Same.refl H) (.bl _)⟩
  · exact h.elim

/-! ### -a; and, or, not; a if t else b -/
def fNeg (fa : FE_) : FE_ := fun env P => fa env fun d => match d with
  | .int i => P (.int (-i))
  | _ => False
theorem fe_neg (ha : FB x O X a fa) : FE x O X (.UnaryOp .USub a pos) (fNeg fa) := (pe_un un_neg ha).imp fun σ H Q ⟨Pn, gh, G, own, env, P, E, q, k⟩ => by
  refine ⟨Pn, gh, G, own, env, _, E, q, fun d q1 v H1 k1 s1 r1 => ?_⟩
  split at q1
  · exact ⟨_, r1.int, k _ q1 _ H1 k1 s1 (.int _)⟩
  · exact q1.elim
variable {rest : List Expr} {ta tb tc : FT_}
def fTAnd (ta tb : FT_) : FT_ := fun env P => ta env fun c => match c with
  | true => tb env P
  | false => P false
def fTOr (ta tb : FT_) : FT_ := fun env P => ta env fun c => match c with
  | true => P true
  | false => tb env P
def fTNot (ta : FT_) : FT_ := fun env P => ta env fun c => P (!c)
theorem fw_and1 (ha : FT x O X a ta) : FW x O X (.BoolOp .And [a] pos) ta := pw_and1 ha
theorem fw_or1 (ha : FT x O X a ta) : FW x O X (.BoolOp .Or [a] pos) ta := pw_or1 ha
theorem fw_and (ha : FT x O X a ta) (hb : FW x O X (.BoolOp .And (b :: rest) pos) tb) : FW x O X (.BoolOp .And (a :: b :: rest) pos) (fTAnd ta tb) := (pw_and ha hb).imp fun σ H Q ⟨Pn, gh, G, own, env, P, E, q, k⟩ => by
  refine ⟨Pn, gh, G, own, env, _, E, q, fun d q1 H1 k1 s1 => ?_⟩
  cases d with
  | true => exact iteT ⟨Pn, gh, G, own, env, P, E.keep k1 s1, q1, fun b p H2 k2 s2 => k b p H2 (k1.trans k2) s2⟩
  | false => exact iteF (k _ q1 H1 k1 s1)
theorem fw_or (ha : FT x O X a ta) (hb : FW x O X (.BoolOp .Or (b :: rest) pos) tb) : FW x O X (.BoolOp .Or (a :: b :: rest) pos) (fTOr ta tb) := (pw_or ha hb).imp fun σ H Q ⟨Pn, gh, G, own, env, P, E, q, k⟩ => by
  refine ⟨Pn, gh, G, own, env, _, E, q, fun d q1 H1 k1 s1 => ?_⟩
  cases d with
  | false => exact iteF ⟨Pn, gh, G, own, env, P, E.keep k1 s1, q1, fun b p H2 k2 s2 => k b p H2 (k1.trans k2) s2⟩
  | true => exact iteT (k _ q1 H1 k1 s1)
theorem ft_bool {f : FT_} (h : FW x O X e f) : FT x O X e f := h.pt
theorem ft_not (ha : FT x O X a ta) : FT x O X (.UnaryOp .Not a pos) (fTNot ta) := (pt_not ha).imp fun σ H Q ⟨Pn, gh, G, own, env, P, E, q, k⟩ =>
  ⟨Pn, gh, G, own, env, _, E, q, fun d q1 H1 k1 s1 => k _ q1 H1 k1 s1⟩
/-- as values -/
def fAnd (fa fb : FE_) : FE_ := fun env P => fa env fun d => match d with
  | .bool true => fb env P
  | .bool false => P (.bool false)
  | _ => False
def fOr (fa fb : FE_) : FE_ := fun env P => fa env fun d => match d with
  | .bool true => P (.bool true)
  | .bool false => fb env P
  | _ => False
def fNot (fa : FE_) : FE_ := fun env P => fa env fun d => match d with
  | .bool b => P (.bool (!b))
  | _ => False
theorem fe_one {op : BoolOp} (ha : FE x O X a fa) : FE x O X (.BoolOp op [a] pos) fa := pe_one ha
theorem fe_and (ha : FE x O X a fa) (hb : FE x O X (.BoolOp .And (b :: rest) pos) fb) : FE x O X (.BoolOp .And (a :: b :: rest) pos) (fAnd fa fb) := (pe_and ha hb).imp fun σ H Q ⟨Pn, gh, G, own, env, P, E, q, k⟩ => by
  refine ⟨Pn, gh, G, own, env, _, E, q, fun d q1 v H1 k1 s1 r1 => ?_⟩
  split at q1
  · cases r1
    exact ⟨true, rfl, iteT ⟨Pn, gh, G, own, env, P, E.keep k1 s1, q1, fun b p v H2 k2 s2 r2 => k b p v H2 (k1.trans k2) s2 r2⟩⟩
  · cases r1
    exact ⟨false, rfl, iteF (k _ q1 _ H1 k1 s1 (.bl _))⟩
  · exact q1.elim
theorem fe_or (ha : FE x O X a fa) (hb : FE x O X (.BoolOp .Or (b :: rest) pos) fb) : FE x O X (.BoolOp .Or (a :: b :: rest) pos) (fOr fa fb) := (pe_or ha hb).imp fun σ H Q ⟨Pn, gh, G, own, env, P, E, q, k⟩ => by
  refine ⟨Pn, gh, G, own, env, _, E, q, fun d q1 v H1 k1 s1 r1 => ?_⟩
  split at q1
  · cases r1
    exact ⟨true, rfl, iteT (k _ q1 _ H1 k1 s1 (.bl _))⟩
  · cases r1
    exact ⟨false, rfl, iteF ⟨Pn, gh, G, own, env, P, E.keep k1 s1, q1, fun b p v H2 k2 s2 r2 => k b p v H2 (k1.trans k2) s2 r2⟩⟩
  · exact q1.elim
theorem fe_not (ha : FE x O X a fa) : FE x O X (.UnaryOp .Not a pos) (fNot fa) := (pe_not ha).imp fun σ H Q ⟨Pn, gh, G, own, env, P, E, q, k⟩ => by
  refine ⟨Pn, gh, G, own, env, _, E, q, fun d q1 v H1 k1 s1 r1 => ?_⟩
  split at q1
  · cases r1
    exact ⟨_, rfl, k _ q1 _ H1 k1 s1 (.bl _)⟩
  · exact q1.elim
def fIfE (tc : FT_) (fa fb : FE_) : FE_ := fun env P => tc env fun c => match c with
  | true => fa env P
  | false => fb env P
theorem fe_if (hc : FT x O X c tc) (ha : FE x O X a fa) (hb : FE x O X b fb) : FE x O X (.IfExp c a b pos) (fIfE tc fa fb) := (pe_ifExp hc ha hb).imp fun σ H Q ⟨Pn, gh, G, own, env, P, E, q, k⟩ => by
  refine ⟨Pn, gh, G, own, env, _, E, q, fun d q1 H1 k1 s1 => ?_⟩
  cases d with
  | true => exact iteT ⟨Pn, gh, G, own, env, P, E.keep k1 s1, q1, fun b p v H2 k2 s2 r2 => k b p v H2 (k1.trans k2) s2 r2⟩
  | false => exact iteF ⟨Pn, gh, G, own, env, P, E.keep k1 s1, q1, fun b p v H2 k2 s2 r2 => k b p v H2 (k1.trans k2) s2 r2⟩

/-! ### argument lists, displays -/
def fANil : FA_ := fun _ P => P []
def fACons (fa : FE_) (fr : FA_) : FA_ := fun env P => fa env fun d => fr env fun ds => P (d :: ds)
variable {es : List Expr} {fr : FA_}
theorem fa_nil : FA x O X [] fANil := pa_nil.imp fun σ H Q ⟨Pn, gh, G, own, env, P, E, q, k⟩ => k _ q _ H (Keep.refl _ _) E.si .nil
theorem fa_cons (ha : FE x O X e fa) (hr : FA x O X es fr) (hs : starEach (e :: es) X.env = (false, eval e X.env) :: starEach es X.env := by rfl) : FA x O X (e :: es) (fACons fa fr) := (pa_cons ha hr hs).imp fun σ H Q ⟨Pn, gh, G, own, env, P, E, q, k⟩ => by
  refine ⟨Pn, gh, G, own, env, _, E, q, fun d q1 v H1 k1 s1 r1 => ?_⟩
  have E1 := E.keep k1 s1
  exact ⟨Pn, gh, G, own, env, _, E1, q1, fun ds q2 vs H2 k2 s2 r2 => k _ q2 _ H2 (k1.trans k2) s2 (.cons (E1.rp k2 r1) r2)⟩
theorem fab_nil : FAB x O X [] fANil := pa_nil.imp fun σ H Q ⟨Pn, gh, G, own, env, P, E, q, k⟩ => k _ q _ H (Keep.refl _ _) E.si trivial
theorem fab_cons (ha : FB x O X e fa) (hr : FAB x O X es fr) (hs : starEach (e :: es) X.env = (false, eval e X.env) :: starEach es X.env := by rfl) : FAB x O X (e :: es) (fACons fa fr) := (pa_cons ha hr hs).imp fun σ H Q ⟨Pn, gh, G, own, env, P, E, q, k⟩ => by
  refine ⟨Pn, gh, G, own, env, _, E, q, fun d q1 v H1 k1 s1 r1 => ?_⟩
  have E1 := E.keep k1 s1
  exact ⟨Pn, gh, G, own, env, _, E1, q1, fun ds q2 vs H2 k2 s2 r2 => k _ q2 _ H2 (k1.trans k2) s2 ⟨E1.rpB k2 r1, r2⟩⟩
def fTup (fr : FA_) : FE_ := fun env P => fr env fun ds => ds.length ≤ 16777216 ∧ P (.tuple ds)
def tTupF (t : TA) : TE := fun σ H Q => t σ H fun xs H1 => xs.length ≤ sizeLine ∧ ∀ p o, H1 p = none → o.dict = none → Q (.ref p) (upd H1 p (.frz o (.tup xs)))
theorem pe_tupF {x1 : Nat} {t : TA} (h : PA X es t) : PE X (.Tuple es x1 pos) (tTupF t) := by
  refine ⟨fun pins s σ H Q I hq => ?_⟩
  refine wpAny_Tuple_spliced (thn (h.run pos pins s σ H _ I hq) fun us s1 ⟨xs, H1, I1, r, z, q⟩ => ⟨by rw [← r.length]; exact z, ?_⟩)
  have hf : H1 s1.heap.objs.size = none := I1.hok.fresh (Nat.le_refl _)
  refine ⟨.ref s1.heap.objs.size, upd H1 s1.heap.objs.size (.frz { cls := .type "tuple", data := .seq us.toArray } (.tup xs)), I1.laid (t' := s1.toks) (fun b u e => Heap.get?_push_of_some _ e) (Nat.le_refl _) ?_, rfl, q _ _ hf rfl⟩
  exact ⟨Heap.get?_push_size _ rfl, z, us, r, ⟨_, Heap.get?_push_size _ rfl, rfl, _, rfl⟩⟩
theorem fe_tup {k1 : Nat} (h : FA x O X es fr) : FE x O X (.Tuple es k1 pos) (fTup fr) := (pe_tupF h).imp fun σ H Q ⟨Pn, gh, G, own, env, P, E, q, k⟩ =>
  ⟨Pn, gh, G, own, env, _, E, q, fun ds q1 vs H1 k1 s1 r1 => ⟨line_ok (by rw [r1.length]; exact q1.1), fun p o hp hd => k _ q1.2 _ _ (k1.trans (Keep.upd hp)) (x.updN s1 hp) (rp_newT hp hd r1)⟩⟩
/-- a new list as a value -/
def fL (f : FA_) : FE_ := fun env P => f env fun ds => P (.list ds)
theorem fe_new {f : FA_} (h : FN x O X e f) : FE x O X e (fL f) := h.imp fun σ H Q ⟨Pn, gh, G, own, env, P, E, q, k⟩ =>
  ⟨Pn, gh, G, own, env, _, E, q, fun ds q1 p xs H1 k1 s1 hp0 hp r => k _ q1 _ H1 k1 s1 (.lst hp (fun z => by
    obtain ⟨o, e⟩ := E.foH z
    rw [hp0] at e; cases e) (r.sub fun a z => .inl (.inl z)))⟩
def fLst (fr : FA_) : FA_ := fun env P => fr env fun ds => ds.length ≤ 16777216 ∧ P ds
theorem rpAll_new {K : PySem.W.Frag} {sc : Option Addr} {F : Addr → Prop} {H : Hp} {p : Addr} {o : HO} {xs : List V} {ds : List PyData} (hp : H p = none) (r : RpAll K sc F H xs ds) : RpAll K sc (fun a => F a ∨ a = p) (upd H p o) xs ds :=
  r.keep (fun a o e _ => same_upd hp a o e) (fun a _ ys e => same_upd hp a _ e) fun a z => z.imp id fun e => by rw [e]; exact hp
theorem fn_lst (h : FA x O X es fr) : FN x O X (.List es pos) (fLst fr) := (pe_lst h).imp fun σ H Q ⟨Pn, gh, G, own, env, P, E, q, k⟩ =>
  ⟨Pn, gh, G, own, env, _, E, q, fun ds q1 vs H1 k1 s1 r1 => ⟨line_ok (by rw [r1.length]; exact q1.1), fun p hp => k _ q1.2 p vs _ (k1.trans (Keep.upd hp)) (x.updN s1 hp) (Keep.none E.si s1 k1 hp) upd_same (rpAll_new hp r1)⟩⟩
end
end FL

/-! F3: subscripts, slices, built-ins, methods. -/
namespace FL
open PySem PySem.Spec PyProof.Rows L2

section
variable {X : Cx} {x : Sx} {O : Nat → Bool} {pos : Pos} {a b c e : Expr} {fa fb fc : FE_} {es : List Expr} {fr : FA_}

/-! ### xs[i] -/
def sIx : S2_ := fun d e P => match d, e with
  | .list ds, .int i => (match atI ds i with | some y => P y | none => False)
  | .tuple ds, .int i => (match atI ds i with | some y => P y | none => False)
  | _, _ => False
theorem atI_rp {K : PySem.W.Frag} {sc : Option Addr} {F : Addr → Prop} {H : Hp} {vs : List V} {ds : List PyData} (r : RpAll K sc F H vs ds) {i : Int} {y : PyData} (h : atI ds i = some y) : ∃ v, atI vs i = some v ∧ Rp K sc F H v y := by
  unfold atI at h ⊢
  rw [r.length]
  cases q : ixN ds.length i with
  | none => rw [q] at h; cases h
  | some j =>
    rw [q] at h
    exact r.get h
theorem s_ix : Op2 X x (fun v w H Q => rIxL X.K v w H Q ∨ rIxT X.K v w H Q) sIx := by
  intro F H v w d e P Q si hS hF rv rw_ h k
  unfold sIx at h
  split at h
  · split at h
    · rename_i y hy
      obtain ⟨p, xs, rfl, hp, r⟩ := rv.lst
      obtain ⟨u, h1, h2⟩ := atI_rp r hy
      exact .inl ⟨p, xs, _, u, rfl, rw_.int, SqL.of hp, h1, k _ h _ H (Same.refl H) h2⟩
    · exact h.elim
  · split at h
    · rename_i y hy
      obtain ⟨p, o, xs, rfl, hp, hd, r⟩ := rv.tup
      obtain ⟨u, h1, h2⟩ := atI_rp r hy
      exact .inr ⟨p, xs, _, u, rfl, rw_.int, sqT_of hp, h1, k _ h _ H (Same.refl H) h2⟩
    · exact h.elim
  · exact h.elim
theorem fe_ix (ha : FB x O X a fa) (hb : FB x O X b fb) (hs : PlainIx b := by exact fun _ _ => rfl) : FE x O X (.Subscript a b pos) (fOp sIx fa fb) :=
  (pe_ix (ix_list.or ix_tup) ha hb hs).imp fun _ _ _ h => op2_go s_ix h

/-! ### slices -/
abbrev FO_ := Ev → (Option Int → Prop) → Prop
def tFO (K : PySem.W.Frag) (x : Sx) (O : Nat → Bool) (f : FO_) : TO := fun σ H Q => ∃ Pn gh G own env P, ER K x O Pn gh G own σ H env ∧ f env P ∧ ∀ o, P o → ∀ H', Keep x.S H H' → x.SI H' → Q o H'
def fO0 : FO_ := fun _ P => P none
def fO1 (fa : FE_) : FO_ := fun env P => fa env fun d => match d with
  | .int i => P (some i)
  | _ => False
theorem fo_none : PO X none (tFO X.K x O fO0) := ⟨fun pins s σ H Q I ⟨Pn, gh, G, own, env, P, E, q, k⟩ => po_none.run pins s σ H Q I (k _ q H (Keep.refl _ _) E.si)⟩
theorem fo_some (ha : FB x O X a fa) : PO X (some a) (tFO X.K x O (fO1 fa)) := ⟨fun pins s σ H Q I ⟨Pn, gh, G, own, env, P, E, q, k⟩ => (po_some ha).run pins s σ H Q I ⟨Pn, gh, G, own, env, _, E, q, fun d q1 v H1 k1 s1 r1 => by
  split at q1
  · exact ⟨_, r1.int, k _ q1 H1 k1 s1⟩
  · exact q1.elim⟩⟩
def cutD (ds : List PyData) (lo hi : Option Int) : List PyData := (ds.drop (HT.sIx ds.length 0 lo)).take (HT.sIx ds.length ds.length hi - HT.sIx ds.length 0 lo)
theorem cut_rp {K : PySem.W.Frag} {sc : Option Addr} {F : Addr → Prop} {H : Hp} {vs : List V} {ds : List PyData} (r : RpAll K sc F H vs ds) (lo hi : Option Int) : RpAll K sc F H (cutV vs lo hi) (cutD ds lo hi) := by
  unfold cutV cutD
  rw [r.length]
  exact (r.drop _).take _
/-- t[lo:hi] of a tuple -/
def rSlF (K : PySem.W.Frag) : V → Option Int → Option Int → Hp → VK → Prop := fun x lo hi H Q => ∃ a xs, x = .ref a ∧ SqT K H a xs ∧
  (HT.sIx xs.length 0 lo = 0 ∧ HT.sIx xs.length xs.length hi = xs.length → Q (.ref a) H) ∧ (¬ (HT.sIx xs.length 0 lo = 0 ∧ HT.sIx xs.length xs.length hi = xs.length) → ∀ p o, H p = none → o.dict = none → Q (.ref p) (upd H p (.frz o (.tup (cutV xs lo hi)))))
theorem sl_tupF : SlR X (rSlF X.K) := by
  intro pins s σ H x v vl vu lo hi sl Q I rx hs pl pu h
  obtain ⟨a, xs, rfl, hx, q1, q2⟩ := h
  cases rx
  obtain ⟨its, r, ht, hz⟩ := I.tuple hx
  have hl := r.length
  have hlen : its.toArray.size = xs.length := by rw [List.size_toArray]; exact hl.symm
  by_cases hw : HT.sIx xs.length 0 lo = 0 ∧ HT.sIx xs.length xs.length hi = xs.length
  · refine ⟨"tuple", _, PyProof.Rows.slot_tuple_getitem.lookup, ht.typeIs, ?_⟩
    exact getItem_tuple_whole ht hs pl pu (by rw [hlen]; exact hw) ⟨.ref a, H, I, rfl, q1 hw⟩
  · refine ⟨"tuple", _, PyProof.Rows.slot_tuple_getitem.lookup, ht.typeIs, ?_⟩
    refine HT.getItem_tuple_cut ht hs pl pu (by rw [hlen]; exact hw) ?_ (by rw [hlen]; exact hz)
    have fr := I.hok.fresh (Nat.le_refl s.heap.objs.size)
    have e : ((its.toArray.toList.drop (HT.sIx its.toArray.size 0 lo)).take (HT.sIx its.toArray.size its.toArray.size hi - HT.sIx its.toArray.size 0 lo)).toArray = ((its.drop (HT.sIx xs.length 0 lo)).take (HT.sIx xs.length xs.length hi - HT.sIx xs.length 0 lo)).toArray := by rw [hlen]
    rw [e]
    refine ⟨.ref s.heap.objs.size, upd H s.heap.objs.size (.frz { cls := .type "tuple", data := .seq ((its.drop (HT.sIx xs.length 0 lo)).take (HT.sIx xs.length xs.length hi - HT.sIx xs.length 0 lo)).toArray } (.tup (cutV xs lo hi))),
      I.laid (t' := s.toks) (fun b u e => Heap.get?_push_of_some _ e) (Nat.le_refl _) ?_, rfl, q2 hw _ _ fr rfl⟩
    exact ⟨Heap.get?_push_size _ rfl, Nat.le_trans (cutV_length xs lo hi) hz, _, (r.drop _).take _, ⟨_, Heap.get?_push_size _ rfl, rfl, _, rfl⟩⟩
variable {lo hi : Option Expr} {fl fh : FO_} {p2 : Pos}
def fSl (fa : FE_) (fl fh : FO_) : FE_ := fun env P => fa env fun d => fl env fun l => fh env fun u => match d with
  | .list ds => P (.list (cutD ds l u))
  | .tuple ds => P (.tuple (cutD ds l u))
  | _ => False
theorem fe_slice (ha : FB x O X a fa) (hl : PO X lo (tFO X.K x O fl)) (hh : PO X hi (tFO X.K x O fh)) : FE x O X (.Subscript a (.Slice lo hi none p2) pos) (fSl fa fl fh) :=
  (pe_slice (sl_list.or sl_tupF) ha hl hh).imp fun σ H Q ⟨Pn, gh, G, own, env, P, E, q, k⟩ => by
    refine ⟨Pn, gh, G, own, env, _, E, q, fun d q1 v H1 k1 s1 r1 => ?_⟩
    have E1 := E.keep k1 s1
    refine ⟨Pn, gh, G, own, env, _, E1, q1, fun l q2 H2 k2 s2 => ?_⟩
    have E2 := E1.keep k2 s2
    refine ⟨Pn, gh, G, own, env, _, E2, q2, fun u q3 H3 k3 s3 => ?_⟩
    have E3 := E2.keep k3 s3
    have r3 := E2.rpB k3 (E1.rpB k2 r1)
    have kk := (k1.trans k2).trans k3
    split at q3
    · obtain ⟨p, xs, rfl, hp, r⟩ := r3.lst
      exact .inl ⟨p, xs, rfl, SqL.of hp, fun q hq => k _ q3 _ _ (kk.trans (Keep.upd hq)) (x.updN s3 hq) (rp_newL (fun a z => E3.foH z) hq (cut_rp r l u))⟩
    · rename_i ds
      obtain ⟨p, o, xs, rfl, hp, hd, r⟩ := r3.tup
      refine .inr ⟨p, xs, rfl, sqT_of hp, fun hw => k _ q3 _ _ kk s3 ?_, fun hw q o hq hdq => k _ q3 _ _ (kk.trans (Keep.upd hq)) (x.updN s3 hq) (rp_newT hq hdq (cut_rp r l u))⟩
      have hl := r.length
      rw [hl] at hw
      have e : cutD ds l u = ds := by
        unfold cutD
        rw [hw.1, hw.2, List.drop_zero, Nat.sub_zero, List.take_length]
      rw [e]
      exact .tup hp hd r
    · exact q3.elim
/-- xs[::-1] of a list -/
def fRevL (fa : FE_) : FA_ := fun env P => fa env fun d => match d with
  | .list ds => P ds.reverse
  | _ => False
theorem fn_revL {k : Nat} {p1 p2 p3 : Pos} (ha : FB x O X a fa) : FN x O X (.Subscript a (.Slice none none (some (.UnaryOp .USub (.Constant (.int 1) k p1) p2)) p3) pos) (fRevL fa) :=
  (pe_revL ha).imp fun σ H Q ⟨Pn, gh, G, own, env, P, E, q, k⟩ => by
    refine ⟨Pn, gh, G, own, env, _, E, q, fun d q1 v H1 k1 s1 r1 => ?_⟩
    split at q1
    · obtain ⟨p, xs, rfl, hp, r⟩ := r1.lst
      exact ⟨p, xs, rfl, SqL.of hp, fun q hq => k _ q1 q _ _ (k1.trans (Keep.upd hq)) (x.updN s1 hq) (Keep.none E.si s1 k1 hq) upd_same (rpAll_new hq r.reverse)⟩
    · exact q1.elim

/-! ### calls of built-ins -/
abbrev S1_ := List PyData → (PyData → Prop) → Prop
def CallS (X : Cx) (x : Sx) (r : List V → Hp → VK → Prop) (s : S1_) : Prop := ∀ (F : Addr → Prop) (H : Hp) (vs : List V) (ds : List PyData) (P : PyData → Prop) (Q : VK), x.SI H → (∀ a, x.S a → F a) → (∀ a, F a → ∃ o, H a = some o) →
  RpBAll X.K x F H vs ds → s ds P → (∀ d', P d' → ∀ u H', Same H H' → Rp X.K x.src F H' u d' → Q u H') → r vs H Q
/-- .. that give a new list -/
abbrev SN_ := List PyData → (List PyData → Prop) → Prop
def CallN (X : Cx) (x : Sx) (r : List V → Hp → VK → Prop) (s : SN_) : Prop := ∀ (F : Addr → Prop) (H : Hp) (vs : List V) (ds : List PyData) (P : List PyData → Prop) (Q : VK), x.SI H → (∀ a, x.S a → F a) → (∀ a, F a → ∃ o, H a = some o) →
  RpBAll X.K x F H vs ds → s ds P → (∀ ds', P ds' → ∀ p xs H', Same H H' → H p = none → H' p = some (.lst xs) → RpAll X.K x.src (fun a => F a ∨ a = p) H' xs ds' → Q (.ref p) H') → r vs H Q
def fCB (s : S1_) (fr : FA_) : FE_ := fun env P => fr env fun ds => s ds P
def fCN (s : SN_) (fr : FA_) : FA_ := fun env P => fr env fun ds => s ds P
theorem callS_go {r : List V → Hp → VK → Prop} {s : S1_} (hs : CallS X x r s) {σ : L2.St} {H : Hp} {Q : VK} (h : tFE X.K x O (fCB s fr) σ H Q) : tCB r (tFAB X.K x O fr) σ H Q := by
  obtain ⟨Pn, gh, G, own, env, P, E, q, k⟩ := h
  refine ⟨Pn, gh, G, own, env, _, E, q, fun ds q1 vs H1 k1 s1 r1 => ?_⟩
  have E1 := E.keep k1 s1
  exact hs (Fo G own) H1 vs ds P Q s1 (fun a z => .inl (E.gS a z)) (fun a z => E1.foH z) r1 q1 fun d' p u H' sm rr => k d' p u H' (k1.trans (Keep.of_same sm)) (x.same s1 sm) rr
theorem callN_go {r : List V → Hp → VK → Prop} {s : SN_} (hs : CallN X x r s) {σ : L2.St} {H : Hp} {Q : VK} (h : tFN X.K x O (fCN s fr) σ H Q) : tCB r (tFAB X.K x O fr) σ H Q := by
  obtain ⟨Pn, gh, G, own, env, P, E, q, k⟩ := h
  refine ⟨Pn, gh, G, own, env, _, E, q, fun ds q1 vs H1 k1 s1 r1 => ?_⟩
  have E1 := E.keep k1 s1
  exact hs (Fo G own) H1 vs ds P Q s1 (fun a z => .inl (E.gS a z)) (fun a z => E1.foH z) r1 q1 fun ds' p pp xs H' sm hp0 hp rr => k ds' p pp xs H' (k1.trans (Keep.of_same sm)) (x.same s1 sm) (Keep.none E.si s1 k1 hp0) hp rr
variable {nm : Str} {p : Pos} {id T : String}
theorem fe_callB {r : List V → Hp → VK → Prop} {s : S1_} (hc : CallR X (.builtin id) r) (hs : CallS X x r s) (hg : Gl X nm) (hm : X.mg nm = none) (hv : bootBuiltins nm = some (.builtin id)) (ha : FAB x O X (e :: es) fr) (hn : nm ≠ "__name__" := by decide) (hdb : (nm == ("__debug__" : Str)) = false := by decide)
    (he : starEach (e :: es) X.env = (false, eval e X.env) :: starEach es X.env := by rfl) (hpl : (backTo pos (starEach es X.env)).any (·.1) = false := by rfl) : FE x O X (.Call (.Name nm p) (e :: es) [] pos) (fCB s fr) :=
  (pe_callB hc hg hm hv ha hn hdb he hpl).imp fun _ _ _ h => callS_go hs h
theorem fe_callT {r : List V → Hp → VK → Prop} {s : S1_} (hc : CallR X (.type T) r) (hs : CallS X x r s) (hg : Gl X nm) (hm : X.mg nm = none) (hv : bootBuiltins nm = some (.type T)) (ha : FAB x O X (e :: es) fr) (hn : nm ≠ "__name__" := by decide) (hdb : (nm == ("__debug__" : Str)) = false := by decide)
    (he : starEach (e :: es) X.env = (false, eval e X.env) :: starEach es X.env := by rfl) (hpl : (backTo pos (starEach es X.env)).any (·.1) = false := by rfl) : FE x O X (.Call (.Name nm p) (e :: es) [] pos) (fCB s fr) :=
  (pe_callTy hc hg hm hv ha hn hdb he hpl).imp fun _ _ _ h => callS_go hs h
theorem fn_callB {r : List V → Hp → VK → Prop} {s : SN_} (hc : CallR X (.builtin id) r) (hs : CallN X x r s) (hg : Gl X nm) (hm : X.mg nm = none) (hv : bootBuiltins nm = some (.builtin id)) (ha : FAB x O X (e :: es) fr) (hn : nm ≠ "__name__" := by decide) (hdb : (nm == ("__debug__" : Str)) = false := by decide)
    (he : starEach (e :: es) X.env = (false, eval e X.env) :: starEach es X.env := by rfl) (hpl : (backTo pos (starEach es X.env)).any (·.1) = false := by rfl) : FN x O X (.Call (.Name nm p) (e :: es) [] pos) (fCN s fr) :=
  (pe_callB hc hg hm hv ha hn hdb he hpl).imp fun _ _ _ h => callN_go hs h
theorem fn_callT {r : List V → Hp → VK → Prop} {s : SN_} (hc : CallR X (.type T) r) (hs : CallN X x r s) (hg : Gl X nm) (hm : X.mg nm = none) (hv : bootBuiltins nm = some (.type T)) (ha : FAB x O X (e :: es) fr) (hn : nm ≠ "__name__" := by decide) (hdb : (nm == ("__debug__" : Str)) = false := by decide)
    (he : starEach (e :: es) X.env = (false, eval e X.env) :: starEach es X.env := by rfl) (hpl : (backTo pos (starEach es X.env)).any (·.1) = false := by rfl) : FN x O X (.Call (.Name nm p) (e :: es) [] pos) (fCN s fr) :=
  (pe_callTy hc hg hm hv ha hn hdb he hpl).imp fun _ _ _ h => callN_go hs h
theorem rpb1 {K : PySem.W.Frag} {F : Addr → Prop} {H : Hp} {vs : List V} {d : PyData} (h : RpBAll K x F H vs [d]) : ∃ v, vs = [v] ∧ RpB K x F H v d := by
  match vs, h with
  | [v], h => exact ⟨v, rfl, h.1⟩
theorem rpb2 {K : PySem.W.Frag} {F : Addr → Prop} {H : Hp} {vs : List V} {d e : PyData} (h : RpBAll K x F H vs [d, e]) : ∃ v w, vs = [v, w] ∧ RpB K x F H v d ∧ RpB K x F H w e := by
  match vs, h with
  | [v, w], h => exact ⟨v, w, rfl, h.1, h.2.1⟩
/-- len -/
def sLen : S1_ := fun ds P => match ds with
  | [.list xs] => P (.int xs.length)
  | [.tuple xs] => P (.int xs.length)
  | _ => False
theorem s_len : CallS X x (fun xs H Q => ∃ p ys, xs = [.ref p] ∧ (SqL X.K H p ys ∨ SqT X.K H p ys) ∧ Q (.int ys.length) H) sLen := by
  intro F H vs ds P Q si hS hF rv h k
  unfold sLen at h
  split at h
  · obtain ⟨v, rfl, r⟩ := rpb1 rv
    obtain ⟨p, xs, rfl, hp, r⟩ := r.lst
    exact ⟨p, xs, rfl, .inl (SqL.of hp), by rw [r.length]; exact k _ h _ H (Same.refl H) (.int _)⟩
  · obtain ⟨v, rfl, r⟩ := rpb1 rv
    obtain ⟨p, o, xs, rfl, hp, hd, r⟩ := r.tup
    exact ⟨p, xs, rfl, .inr (sqT_of hp), by rw [r.length]; exact k _ h _ H (Same.refl H) (.int _)⟩
  · exact h.elim
/-- abs -/
def sAbs : S1_ := fun ds P => match ds with
  | [.int i] => P (.int (if i < 0 then -i else i))
  | _ => False
theorem s_abs : CallS X x (fun xs H Q => ∃ i, xs = [.int i] ∧ Q (.int (if i < 0 then -i else i)) H) sAbs := by
  intro F H vs ds P Q si hS hF rv h k
  unfold sAbs at h
  split at h
  · obtain ⟨v, rfl, r⟩ := rpb1 rv
    exact ⟨_, by rw [r.int], k _ h _ H (Same.refl H) (.int _)⟩
  · exact h.elim
/-- int -/
def sInt : S1_ := fun ds P => match ds with
  | [.int i] => P (.int i)
  | [.bool b] => P (.int (if b then 1 else 0))
  | _ => False
theorem s_intc : CallS X x (fun xs H Q => (∃ i, xs = [.int i] ∧ Q (.int i) H) ∨ ∃ k, xs = [.bl k] ∧ Q (.int (if k then 1 else 0)) H) sInt := by
  intro F H vs ds P Q si hS hF rv h k
  unfold sInt at h
  split at h
  · obtain ⟨v, rfl, r⟩ := rpb1 rv
    exact .inl ⟨_, by rw [r.int], k _ h _ H (Same.refl H) (.int _)⟩
  · obtain ⟨v, rfl, r⟩ := rpb1 rv
    exact .inr ⟨_, by rw [r.bl], k _ h _ H (Same.refl H) (.int _)⟩
  · exact h.elim
/-- max, min of two -/
def sMax2 : S1_ := fun ds P => match ds with
  | [.int i, .int j] => P (.int (if j > i then j else i))
  | _ => False
theorem s_max2 : CallS X x (fun xs H Q => ∃ i j, xs = [.int i, .int j] ∧ Q (.int (if j > i then j else i)) H) sMax2 := by
  intro F H vs ds P Q si hS hF rv h k
  unfold sMax2 at h
  split at h
  · obtain ⟨v, w, rfl, r, r'⟩ := rpb2 rv
    exact ⟨_, _, by rw [r.int, r'.int], k _ h _ H (Same.refl H) (.int _)⟩
  · exact h.elim
def sMin2 : S1_ := fun ds P => match ds with
  | [.int i, .int j] => P (.int (if j < i then j else i))
  | _ => False
theorem s_min2 : CallS X x (fun xs H Q => ∃ i j, xs = [.int i, .int j] ∧ Q (.int (if j < i then j else i)) H) sMin2 := by
  intro F H vs ds P Q si hS hF rv h k
  unfold sMin2 at h
  split at h
  · obtain ⟨v, w, rfl, r, r'⟩ := rpb2 rv
    exact ⟨_, _, by rw [r.int, r'.int], k _ h _ H (Same.refl H) (.int _)⟩
  · exact h.elim
/-- list(xs), tuple(xs) -/
def sList : SN_ := fun ds P => match ds with
  | [.list xs] => P xs
  | [.tuple xs] => P xs
  | _ => False
theorem s_list : CallN X x (fun xs H Q => ∃ p ys, xs = [.ref p] ∧ (SqL X.K H p ys ∨ SqT X.K H p ys) ∧ ∀ l, H l = none → Q (.ref l) (upd H l (.lst ys))) sList := by
  intro F H vs ds P Q si hS hF rv h k
  unfold sList at h
  split at h
  · obtain ⟨v, rfl, r⟩ := rpb1 rv
    obtain ⟨p, xs, rfl, hp, r⟩ := r.lst
    exact ⟨p, xs, rfl, .inl (SqL.of hp), fun l hl => k _ h _ _ _ (same_upd hl) hl upd_same (rpAll_new hl r)⟩
  · obtain ⟨v, rfl, r⟩ := rpb1 rv
    obtain ⟨p, o, xs, rfl, hp, hd, r⟩ := r.tup
    exact ⟨p, xs, rfl, .inr (sqT_of hp), fun l hl => k _ h _ _ _ (same_upd hl) hl upd_same (rpAll_new hl r)⟩
  · exact h.elim
def rTupF (K : PySem.W.Frag) : List V → Hp → VK → Prop := fun xs H Q => ∃ p ys, xs = [.ref p] ∧ ((SqL K H p ys ∧ ∀ l o, H l = none → o.dict = none → Q (.ref l) (upd H l (.frz o (.tup ys)))) ∨ (SqT K H p ys ∧ Q (.ref p) H))
theorem call_tupleF : CallR X (.type "tuple") (rTupF X.K) := by
  intro pins s σ H xs us Q I r h
  obtain ⟨p, ys, rfl, h⟩ := h
  obtain ⟨u, rfl, rx⟩ := vals1 r
  cases rx
  rcases h with ⟨hq, q⟩ | ⟨hq, q⟩
  · obtain ⟨its, r', pl, hz⟩ := I.list hq
    have hlen := r'.length
    refine call_tuple_list pl.isList (fun h' kp => ?_) (by simp only [List.size_toArray] <;> omega)
    have I1 : Inv X pins σ H { s with heap := h' } := I.kept (t' := s.toks) kp
    have I2 : Inv X pins σ (upd H h'.objs.size (.frz { cls := .type "tuple", data := .seq its.toArray } (.tup ys))) { s with heap := h'.push { cls := .type "tuple", data := .seq its.toArray } } :=
      I1.laid (t' := s.toks) (fun b o e => Heap.get?_push_of_some _ e) (Nat.le_refl _) ⟨Heap.get?_push_size _ rfl, hz, its, r', IsTup.new _ _⟩
    exact ⟨.ref h'.objs.size, _, I2, rfl, q _ _ (I1.hok.fresh (Nat.le_refl _)) rfl⟩
  · obtain ⟨its, r', pl, hz⟩ := I.tuple hq
    exact call_tuple_same pl ⟨.ref p, H, I, rfl, q⟩
def sTuple : S1_ := fun ds P => match ds with
  | [.list xs] => P (.tuple xs)
  | [.tuple xs] => P (.tuple xs)
  | _ => False
theorem s_tuple : CallS X x (rTupF X.K) sTuple := by
  intro F H vs ds P Q si hS hF rv h k
  unfold sTuple at h
  split at h
  · obtain ⟨v, rfl, r⟩ := rpb1 rv
    obtain ⟨p, xs, rfl, hp, r⟩ := r.lst
    exact ⟨p, xs, rfl, .inl ⟨SqL.of hp, fun l o hl hd => k _ h _ _ (same_upd hl) (rp_newT hl hd r)⟩⟩
  · obtain ⟨v, rfl, r⟩ := rpb1 rv
    obtain ⟨p, o, xs, rfl, hp, hd, r⟩ := r.tup
    exact ⟨p, xs, rfl, .inr ⟨sqT_of hp, k _ h _ _ (Same.refl H) (.tup hp hd r)⟩⟩
  · exact h.elim
/-- the ints of data -/
def intsOf : List PyData → Option (List Int)
  | [] => some []
  | .int i :: r => (intsOf r).map (i :: ·)
  | _ :: _ => none
theorem intsOf_map (ns : List Int) : intsOf (ns.map PyData.int) = some ns := by
  induction ns with
  | nil => rfl
  | cons n r ih => rw [List.map_cons, intsOf, ih]; rfl
theorem intsOf_eq : ∀ {ds : List PyData} {ns : List Int}, intsOf ds = some ns → ds = ns.map PyData.int
  | [], _, h => by cases h; rfl
  | .int i :: r, ns, h => by
    unfold intsOf at h
    cases q : intsOf r with
    | none => rw [q] at h; cases h
    | some ms =>
      rw [q] at h
      cases h
      rw [intsOf_eq q]; rfl
  | .none :: _, _, h => by cases h
  | .bool _ :: _, _, h => by cases h
  | .str _ :: _, _, h => by cases h
  | .list _ :: _, _, h => by cases h
  | .tuple _ :: _, _, h => by cases h
  | .dict _ :: _, _, h => by cases h
/-- sum -/
def rSumF (K : PySem.W.Frag) : List V → Hp → VK → Prop := fun vs H Q => ∃ (a : Addr) (ns : List Int), vs = [V.ref a] ∧ (SqL K H a (ns.map V.int) ∨ SqT K H a (ns.map V.int)) ∧ Q (.int ns.sum) H
theorem cr_sumF (hc : X.calm = true) : CallR X (.builtin "sum") (rSumF X.K) := by
  intro pins s σ H vs us Q I r h
  obtain ⟨a, ns, rfl, hs, q⟩ := h
  rcases hs with hs | hs
  · exact cr_sum hc pins s σ H _ us Q I r ⟨a, ns, rfl, hs, q⟩
  · obtain ⟨its, rv, hl, _⟩ := I.tuple hs
    rw [Vals.ref1 r]
    obtain ⟨xs, hx⟩ := rv.ints.allInts.items
    have hn : numsOf its.toArray.toList = ns := by rw [show its.toArray.toList = its from rfl, rv.ints.numsOf]
    rw [hx] at hl hn
    rw [nums_intItems] at hn
    refine PySem.W.ktm_sumG (I.ok.hd hc) (show s.heap.IsTuple a _ from hl) fun h' tk t' hk => ?_
    have e : preSum (numAt xs) xs.size = ns.sum := by
      rw [preSum_eq, List.take_of_length_le (by simp), hn]
    rw [e]
    exact ⟨.int _, H, I.kept hk, ⟨_, rfl⟩, q⟩
def sSum : S1_ := fun ds P => match ds with
  | [.list xs] => (match intsOf xs with | some ns => P (.int ns.sum) | none => False)
  | [.tuple xs] => (match intsOf xs with | some ns => P (.int ns.sum) | none => False)
  | _ => False
theorem seqs_of {F : Addr → Prop} {H : Hp} {vs : List V} {xs : List PyData} {ns : List Int} (e : intsOf xs = some ns) (rv : RpBAll X.K x F H vs [.list xs] ∨ RpBAll X.K x F H vs [.tuple xs]) : ∃ a, vs = [V.ref a] ∧ (SqL X.K H a (ns.map V.int) ∨ SqT X.K H a (ns.map V.int)) := by
  have e' := intsOf_eq e
  subst e'
  rcases rv with rv | rv
  · obtain ⟨v, rfl, r⟩ := rpb1 rv
    obtain ⟨p, ys, rfl, hp, r⟩ := r.lst
    rw [r.ints] at hp
    exact ⟨p, rfl, .inl (SqL.of hp)⟩
  · obtain ⟨v, rfl, r⟩ := rpb1 rv
    obtain ⟨p, o, ys, rfl, hp, hd, r⟩ := r.tup
    rw [r.ints] at hp
    exact ⟨p, rfl, .inr (sqT_of hp)⟩
theorem s_sum : CallS X x (rSumF X.K) sSum := by
  intro F H vs ds P Q si hS hF rv h k
  unfold sSum at h
  split at h
  · split at h
    · rename_i ns e
      obtain ⟨a, e1, e2⟩ := seqs_of e (.inl rv)
      exact ⟨a, ns, e1, e2, k _ h _ H (Same.refl H) (.int _)⟩
    · exact h.elim
  · split at h
    · rename_i ns e
      obtain ⟨a, e1, e2⟩ := seqs_of e (.inr rv)
      exact ⟨a, ns, e1, e2, k _ h _ H (Same.refl H) (.int _)⟩
    · exact h.elim
  · exact h.elim
/-- the truth values of data -/
def boolsOf : List PyData → Option (List Bool)
  | [] => some []
  | .bool i :: r => (boolsOf r).map (i :: ·)
  | _ :: _ => none
theorem boolsOf_map (ns : List Bool) : boolsOf (ns.map PyData.bool) = some ns := by
  induction ns with
  | nil => rfl
  | cons n r ih => rw [List.map_cons, boolsOf, ih]; rfl
theorem boolsOf_eq : ∀ {ds : List PyData} {ns : List Bool}, boolsOf ds = some ns → ds = ns.map PyData.bool
  | [], _, h => by cases h; rfl
  | .bool i :: r, ns, h => by
    unfold boolsOf at h
    cases q : boolsOf r with
    | none => rw [q] at h; cases h
    | some ms =>
      rw [q] at h
      cases h
      rw [boolsOf_eq q]; rfl
  | .none :: _, _, h => by cases h
  | .int _ :: _, _, h => by cases h
  | .str _ :: _, _, h => by cases h
  | .list _ :: _, _, h => by cases h
  | .tuple _ :: _, _, h => by cases h
  | .dict _ :: _, _, h => by cases h
def sAll : S1_ := fun ds P => match ds with
  | [.list xs] => (match boolsOf xs with | some ns => P (.bool (ns.all _root_.id)) | none => False)
  | _ => False
def sAny : S1_ := fun ds P => match ds with
  | [.list xs] => (match boolsOf xs with | some ns => P (.bool (ns.any _root_.id)) | none => False)
  | _ => False
theorem seqs_ofB {F : Addr → Prop} {H : Hp} {vs : List V} {xs : List PyData} {ns : List Bool} (e : boolsOf xs = some ns) (rv : RpBAll X.K x F H vs [.list xs]) : ∃ a, vs = [V.ref a] ∧ SqL X.K H a (ns.map V.bl) := by
  have e' := boolsOf_eq e
  subst e'
  obtain ⟨v, rfl, r⟩ := rpb1 rv
  obtain ⟨p, ys, rfl, hp, r⟩ := r.lst
  rw [r.bools] at hp
  exact ⟨p, rfl, SqL.of hp⟩
theorem s_all : CallS X x (rAll X.K) sAll := by
  intro F H vs ds P Q si hS hF rv h k
  unfold sAll at h
  split at h
  · split at h
    · rename_i ns e
      obtain ⟨a, e1, e2⟩ := seqs_ofB e rv
      exact ⟨a, ns, e1, e2, k _ h _ H (Same.refl H) (.bl _)⟩
    · exact h.elim
  · exact h.elim
theorem s_any : CallS X x (rAny X.K) sAny := by
  intro F H vs ds P Q si hS hF rv h k
  unfold sAny at h
  split at h
  · split at h
    · rename_i ns e
      obtain ⟨a, e1, e2⟩ := seqs_ofB e rv
      exact ⟨a, ns, e1, e2, k _ h _ H (Same.refl H) (.bl _)⟩
    · exact h.elim
  · exact h.elim
/-- max, min of ints in a list or a tuple -/
def maxI : Int → List Int → Int
  | m, [] => m
  | m, n :: r => maxI (max m n) r
def minI : Int → List Int → Int
  | m, [] => m
  | m, n :: r => minI (min m n) r
theorem maxI_mem : ∀ (m : Int) (r : List Int), maxI m r ∈ m :: r
  | m, [] => List.mem_cons_self
  | m, n :: r => by
    have h := maxI_mem (max m n) r
    show maxI (max m n) r ∈ _
    rcases List.mem_cons.mp h with h | h
    · rw [h]
      rcases Int.le_total m n with q | q
      · rw [Int.max_eq_right q]; simp
      · rw [Int.max_eq_left q]; simp
    · simp [h]
theorem maxI_le : ∀ (m : Int) (r : List Int), ∀ y ∈ m :: r, y ≤ maxI m r
  | m, [], y, h => by
    have : y = m := by simpa using h
    subst this; exact Int.le_refl _
  | m, n :: r, y, h => by
    show y ≤ maxI (max m n) r
    have h1 := maxI_le (max m n) r (max m n) List.mem_cons_self
    rcases List.mem_cons.mp h with h | h
    · subst h; exact Int.le_trans (Int.le_max_left _ _) h1
    · rcases List.mem_cons.mp h with h | h
      · subst h; exact Int.le_trans (Int.le_max_right _ _) h1
      · exact maxI_le (max m n) r y (List.mem_cons_of_mem _ h)
theorem minI_mem : ∀ (m : Int) (r : List Int), minI m r ∈ m :: r
  | m, [] => List.mem_cons_self
  | m, n :: r => by
    have h := minI_mem (min m n) r
    show minI (min m n) r ∈ _
    rcases List.mem_cons.mp h with h | h
    · rw [h]
      rcases Int.le_total m n with q | q
      · rw [Int.min_eq_left q]; simp
      · rw [Int.min_eq_right q]; simp
    · simp [h]
theorem minI_le : ∀ (m : Int) (r : List Int), ∀ y ∈ m :: r, minI m r ≤ y
  | m, [], y, h => by
    have : y = m := by simpa using h
    subst this; exact Int.le_refl _
  | m, n :: r, y, h => by
    show minI (min m n) r ≤ y
    have h1 := minI_le (min m n) r (min m n) List.mem_cons_self
    rcases List.mem_cons.mp h with h | h
    · subst h; exact Int.le_trans h1 (Int.min_le_left _ _)
    · rcases List.mem_cons.mp h with h | h
      · subst h; exact Int.le_trans h1 (Int.min_le_right _ _)
      · exact minI_le (min m n) r y (List.mem_cons_of_mem _ h)
def sMax1 : S1_ := fun ds P => match ds with
  | [.list xs] => (match intsOf xs with | some (m :: r) => P (.int (maxI m r)) | _ => False)
  | _ => False
def sMin1 : S1_ := fun ds P => match ds with
  | [.list xs] => (match intsOf xs with | some (m :: r) => P (.int (minI m r)) | _ => False)
  | _ => False
theorem s_max1 : CallS X x (rMax X.K) sMax1 := by
  intro F H vs ds P Q si hS hF rv h k
  unfold sMax1 at h
  split at h
  · split at h
    · rename_i m r e
      have e' := intsOf_eq e
      subst e'
      obtain ⟨v, rfl, r1⟩ := rpb1 rv
      obtain ⟨p, ys, rfl, hp, r2⟩ := r1.lst
      rw [r2.ints] at hp
      refine ⟨p, m :: r, rfl, SqL.of hp, Nat.succ_pos _, fun n hn hl => ?_⟩
      have e : n = maxI m r := Int.le_antisymm (maxI_le m r n hn) (hl _ (maxI_mem m r))
      rw [e]
      exact k _ h _ H (Same.refl H) (.int _)
    · exact h.elim
  · exact h.elim
theorem s_min1 : CallS X x (rMin X.K) sMin1 := by
  intro F H vs ds P Q si hS hF rv h k
  unfold sMin1 at h
  split at h
  · split at h
    · rename_i m r e
      have e' := intsOf_eq e
      subst e'
      obtain ⟨v, rfl, r1⟩ := rpb1 rv
      obtain ⟨p, ys, rfl, hp, r2⟩ := r1.lst
      rw [r2.ints] at hp
      refine ⟨p, m :: r, rfl, SqL.of hp, Nat.succ_pos _, fun n hn hl => ?_⟩
      have e : n = minI m r := Int.le_antisymm (hl _ (minI_mem m r)) (minI_le m r n hn)
      rw [e]
      exact k _ h _ H (Same.refl H) (.int _)
    · exact h.elim
  · exact h.elim
end
end FL

/-! F4: what loops and comprehensions walk: lists and tuples by themselves, by enumerate, zip. -/
namespace FL
open PySem PySem.Spec PyProof.Rows L2

/-- a list (kd) or a tuple -/
def Sq (K : PySem.W.Frag) (kd : Bool) (H : Hp) (a : Addr) (xs : List V) : Prop := match kd with
  | true => SqL K H a xs
  | false => SqT K H a xs
def IterAt (kd : Bool) (h : Heap) (it a : Addr) (i : Nat) : Prop := match kd with
  | true => h.IsListIter it a i
  | false => h.IsTupleIter it a i
def IsSq (kd : Bool) (h : Heap) (a : Addr) (its : Array Value) : Prop := match kd with
  | true => h.IsList a its
  | false => h.IsTuple a its
def iterObj (kd : Bool) (a : Addr) : Obj := match kd with
  | true => { cls := .type "list_iterator", data := .fields #[.ref a, .int 0 0] }
  | false => { cls := .type "tuple_iterator", data := .fields #[.ref a, .int 0 0] }
theorem begins_sq (kd : Bool) (a : Addr) (its : Array Value) : Begins (.ref a) (iterObj kd a) fun h => IsSq kd h a its := by
  cases kd with
  | true => exact begins_list a its
  | false => exact begins_tuple a its
theorem iterObj_at {kd : Bool} {h : Heap} {it a : Addr} (e : h.get? it = some (iterObj kd a)) : IterAt kd h it a 0 := by
  cases kd with
  | true => exact ⟨_, e, rfl, rfl⟩
  | false => exact ⟨_, e, rfl, rfl⟩
theorem IterAt.keep {kd : Bool} {h h' : Heap} {it a : Addr} {i : Nat} (x : IterAt kd h it a i) (k : ∀ o, h.get? it = some o → h'.get? it = some o) : IterAt kd h' it a i := by
  cases kd with
  | true => exact Heap.IsListIter.at x k
  | false => exact Heap.IsTupleIter.at x k
theorem IterAt.obj {kd : Bool} {h : Heap} {it a : Addr} {i : Nat} (x : IterAt kd h it a i) : ∃ o, h.get? it = some o ∧ ∀ v, o.data ≠ .cell v := by
  cases kd with
  | true => obtain ⟨o, e, c, d⟩ := x; exact ⟨o, e, fun v z => by rw [d] at z; cases z⟩
  | false => obtain ⟨o, e, c, d⟩ := x; exact ⟨o, e, fun v z => by rw [d] at z; cases z⟩
theorem draws_sq {prog : Program} {w : World} {A : Around} (hh : A.handled = none) (kd : Bool) (it a : Addr) (hne : a ≠ it) (its : Array Value) :
    Draws prog w A it [it, a] its.size (fun i v => its[i]? = some v) (fun i h => IterAt kd h it a i ∧ IsSq kd h a its) := by
  cases kd with
  | true => exact Draws.list hh it a hne its
  | false => exact Draws.tuple hh it a hne its
section
variable {X : Cx} {pins : List (Addr × Obj)} {σ : L2.St} {H : Hp} {s : Shared} {a : Addr} {xs ys : List V} {kd : Bool}
theorem sq_run (I : Inv X pins σ H s) (h : Sq X.K kd H a xs) : ∃ its : List Value, Vals xs its ∧ IsSq kd s.heap a its.toArray ∧ xs.length ≤ sizeLine := by
  cases kd with
  | true => obtain ⟨its, r, p, z⟩ := I.list h; exact ⟨its, r, p.isList, z⟩
  | false => obtain ⟨its, r, p, z⟩ := I.tuple h; exact ⟨its, r, show s.heap.IsTuple a _ from p, z⟩
theorem sq_inj (I : Inv X pins σ H s) (h : Sq X.K kd H a xs) (h' : Sq X.K kd H a ys) : xs = ys := by
  cases kd with
  | true => exact I.list_inj h h'
  | false => exact I.tuple_inj h h'
/-- an object that reads as a list or tuple of the module or is tracked is no iterator of ours -/
theorem sq_ne (I : Inv X pins σ H s) (h : Sq X.K kd H a xs) {it b : Addr} {i : Nat} {kd' : Bool} (x : IterAt kd' s.heap it b i) : a ≠ it := by
  intro e
  subst e
  obtain ⟨its, r, p, _⟩ := sq_run I h
  cases kd with
  | true =>
    obtain ⟨o, ho, hc, _⟩ := p
    cases kd' with
    | true => obtain ⟨o', e, c, _⟩ := x; rw [ho] at e; cases e; rw [hc] at c; injection c with c; exact absurd c (by decide)
    | false => obtain ⟨o', e, c, _⟩ := x; rw [ho] at e; cases e; rw [hc] at c; injection c with c; exact absurd c (by decide)
  | false =>
    obtain ⟨o, ho, hc, _⟩ := p
    cases kd' with
    | true => obtain ⟨o', e, c, _⟩ := x; rw [ho] at e; cases e; rw [hc] at c; injection c with c; exact absurd c (by decide)
    | false => obtain ⟨o', e, c, _⟩ := x; rw [ho] at e; cases e; rw [hc] at c; injection c with c; exact absurd c (by decide)
/-- .. nor any other object of another class -/
theorem sq_neO (I : Inv X pins σ H s) (h : Sq X.K kd H a xs) {b : Addr} {o : Obj} (e : s.heap.get? b = some o) (hl : o.cls ≠ .type "list") (ht : o.cls ≠ .type "tuple") : a ≠ b := by
  intro z
  subst z
  obtain ⟨its, r, p, _⟩ := sq_run I h
  cases kd with
  | true => obtain ⟨o', ho, hc, _⟩ := p; rw [ho] at e; cases e; exact hl hc
  | false => obtain ⟨o', ho, hc, _⟩ := p; rw [ho] at e; cases e; exact ht hc
end

/-- what may be an iterator's own object is none of the module's -/
theorem notK {X : Cx} {pins : List (Addr × Obj)} {σ : L2.St} {H : Hp} {s : Shared} {b : Addr} {o : Obj} (I : Inv X pins σ H s) (f : FpOk X pins H b) (h : X.K.lookup b = some o) : False := by
  have e := I.mod.kin b o h
  obtain ⟨_, _, _, hx, _, _⟩ := f
  rcases hx with hx | hx
  · exact I.ok.noex b o e hx
  · exact absurd (Nat.lt_of_lt_of_le (Heap.lt_size e) (Nat.le_trans I.ok.bsz hx)) (Nat.lt_irrefl _)

theorem ne_el : Value.type "enumerate" ≠ Value.type "list" := fun z => by
  injection z with z
  exact absurd z (by decide)
theorem ne_et : Value.type "enumerate" ≠ Value.type "tuple" := fun z => by
  injection z with z
  exact absurd z (by decide)

/-! ### enumerate -/
def IteX (K : PySem.W.Frag) (kd : Bool) (a : Addr) : It :=
  ⟨fun i H => ∃ (xs : List V) (x : V), Sq K kd H a xs ∧ xs[i]? = some x, fun i H v H' => ∃ T x, v = .ref T ∧ H T = none ∧ H' = upd H T (.tup [.int (i : Nat), x]) ∧ ∀ xs, Sq K kd H a xs → xs[i]? = some x, fun i H => ∃ xs : List V, Sq K kd H a xs ∧ xs.length = i⟩
theorem turn_enumX {P : Program} {w : World} {K : PySem.W.Frag} {elts : List Expr} {kk : Nat} {tpos : Pos} (kd : Bool) (a e it : Addr) :
    Turn P w K (.Tuple elts kk tpos) (IteX K kd a) [e, it] e (fun i h => (∃ old, IsEnum h e it (0 + ((i : Nat) : Int)) old) ∧ IterAt kd h it a i ∧ e ≠ it) where
  mem := by simp
  obj := fun i h st b hb => by
    obtain ⟨⟨old, he⟩, hi, _⟩ := st
    have e' : b = e ∨ b = it := by simpa using hb
    rcases e' with z | z
    · rw [z]; exact ⟨_, he, fun v q => nomatch q⟩
    · rw [z]; exact hi.obj
  keep := fun i h h' st k => let ⟨⟨old, he⟩, hi, hne⟩ := st; ⟨⟨old, k e (by simp) _ he⟩, hi.keep fun o q => k it (by simp) o q, hne⟩
  item := by
    intro X hP hw hK hc i pins s σ H E I hf st hg
    subst hP hw hK
    obtain ⟨⟨old, he⟩, hit, hne⟩ := st
    obtain ⟨xs, x, hq, hx⟩ := hg
    obtain ⟨its, rv, p, hz⟩ := sq_run I hq
    have hl := rv.length
    have hai : a ≠ it := sq_ne I hq hit
    have hae : a ≠ e := sq_neO I hq he ne_el ne_et
    have hlt : i < its.toArray.size := by
      have := (List.getElem?_eq_some_iff.mp hx).1
      simp; omega
    have D := draws_sq (prog := X.prog) (w := X.w) (A := X.A.in1) (I.ok.hd hc) kd it a hai its.toArray
    have W := GoesN.enumFrom (elts := elts) (x1 := kk) (pos := tpos) 0 D e hne (by simp [hne, Ne.symm hae]) (by simp)
    refine W.goes i s _ E hlt ⟨⟨old, he⟩, hit, p⟩ fun v h' tk hY st' hk htk => ?_
    obtain ⟨T, t, u, rfl, hT, hu, hTup⟩ := hY
    obtain ⟨⟨old', he'⟩, hit', hp'⟩ := st'
    obtain ⟨u', hu', ru⟩ := rv.get hx
    have eu : u = u' := by
      have h1 : its[i]? = some u := by simpa using hu
      rw [hu'] at h1; exact (Option.some.inj h1).symm
    subst eu
    have hn : H T = none := I.hok.fresh hT
    have new : ObjOk X.prog X.w (upd H T (.tup [.int (i : Nat), x])) h' T (.tup [.int (i : Nat), x]) :=
      ⟨by show 2 ≤ sizeLine; decide, [.int (0 + (i : Int)) t, u], .cons ⟨t, by rw [Int.zero_add]⟩ (.cons ru .nil), hTup⟩
    have I1 : Inv X pins σ (upd H T (.tup [.int (i : Nat), x])) { s with heap := h', toks := tk } :=
      I.turnedNew (ch := [e, it]) (fun b ob hb q => hk b ob (by simpa using hb) q) hf hT new
    refine ⟨.ref T, _, I1, rfl, ⟨T, x, rfl, hn, rfl, fun ys hy => by rw [sq_inj I hy hq]; exact hx⟩, ⟨⟨old', he'⟩, hit', hne⟩, fun b hb => ?_⟩
    have hb' : b < s.heap.objs.size := by
      have e' : b = e ∨ b = it := by simpa using hb
      rcases e' with z | z
      · rw [z]; exact Heap.lt_size he
      · rw [z]; obtain ⟨o, q, _⟩ := hit.obj; exact Heap.lt_size q
    rw [upd_ne (Nat.ne_of_lt (Nat.lt_of_lt_of_le hb' hT))]
    exact (hf b hb).1
  done := by
    intro X hP hw hK hc i pins s σ H E I hf st hg
    subst hP hw hK
    obtain ⟨⟨old, he⟩, hit, hne⟩ := st
    obtain ⟨xs, hq, hx⟩ := hg
    obtain ⟨its, rv, p, hz⟩ := sq_run I hq
    have hl := rv.length
    have hai : a ≠ it := sq_ne I hq hit
    have hae : a ≠ e := sq_neO I hq he ne_el ne_et
    have D := draws_sq (prog := X.prog) (w := X.w) (A := X.A.in1) (I.ok.hd hc) kd it a hai its.toArray
    have W := GoesN.enumFrom (elts := elts) (x1 := kk) (pos := tpos) 0 D e hne (by simp [hne, Ne.symm hae]) (by simp)
    have en : its.toArray.size = i := by simp; omega
    rw [en] at W
    exact W.stops s _ E ⟨⟨old, he⟩, hit, p⟩ fun h' tk hk htk => I.turnedL (t' := tk) (ch := [e, it]) (fun b o hb q => hk b o (by simpa using hb) q) hf
  self := fun A i s Q E st h => let ⟨⟨_, he⟩, _⟩ := st; wpAny_pyIter_enum he h
/-- enumerate(xs), one argument: its two new cells -/
theorem meets_enumerate_new1 {v : Value} {o : Obj} {H : Heap → Prop} (B : Begins v o H) :
    Meets (Builtin.«enumerate.__new__» ⟨[.type "enumerate", v], []⟩) (fun _ R s => H s.heap ∧
      R (.ok (.ret (.ref (s.heap.push o).objs.size))) { s with heap := (s.heap.push o).push { cls := .type "enumerate", data := .fields #[.none, .bool false, .ref s.heap.objs.size, rawInt 0, .none, .none] } }) :=
  .of_wp fun prog w A R s h => by
    obtain ⟨hp, g, d, tk, os⟩ := s; obtain ⟨h1, h⟩ := h
    have hsub := sub_enumerate
    have q1 : ∀ {A' : Around} {E : Value → Shared → Prop} {Q : Value → Shared → Prop}, Q (.ref hp.objs.size) ⟨hp.push o, g, d, tk, os⟩ → wpAny (model prog w) A' (pyIter v) Q E ⟨hp, g, d, tk, os⟩ :=
      fun q => B.iter prog w _ _ ⟨hp, g, d, tk, os⟩ _ h1 q
    wp_walk using q1
    refine wpAny_stack_any fun st => wpAny_pure ?_
    split
    · rename_i c _ _ _ _ _
      cases (c == Value.type "enumerate")
      · wp_walk using q1
        exact ⟨_, rfl, h⟩
      · wp_walk using q1
        exact ⟨_, rfl, h⟩
    · wp_walk using q1
      exact ⟨_, rfl, h⟩
theorem enum_begins1 {prog : Program} {w : World} {A : Around} {E : Value → Shared → Prop} {s : Shared} {v : Value} {o : Obj} {H : Heap → Prop} {Q : Value → Shared → Prop} (B : Begins v o H) (h1 : H s.heap)
    (h : ∀ h', IsEnum h' (s.heap.objs.size + 1) s.heap.objs.size 0 .none → h'.get? s.heap.objs.size = some o → h'.objs.size = s.heap.objs.size + 2 →
      (∀ b o, s.heap.get? b = some o → h'.get? b = some o) → Q (.ref (s.heap.objs.size + 1)) { s with heap := h' }) :
    wpAny (model prog w) A (call (.type "enumerate") [v]) Q E s := by
  refine callType_new F.called_enumerate (by decide) (F.typeCall_enumerate_1 _) (F.newCall_enumerate_1 _) (fun obj => F.args_object_init_2 obj _) F.entry_enumerate_new
    (meets_enumerate_new1 B) ⟨h1, ?_⟩
  have hz : (s.heap.push o).objs.size = s.heap.objs.size + 1 := Heap.size_push ..
  show _ ∧ _
  rw [hz]
  have he : IsEnum ((s.heap.push o).push { cls := .type "enumerate", data := .fields #[.none, .bool false, .ref s.heap.objs.size, rawInt 0, .none, .none] }) (s.heap.objs.size + 1) s.heap.objs.size 0 .none := by
    have := Heap.get?_push_size (s.heap.push o) (o := { cls := .type "enumerate", data := .fields #[.none, .bool false, .ref s.heap.objs.size, rawInt 0, .none, .none] }) rfl
    rw [hz] at this; exact this
  refine ⟨⟨_, he, rfl⟩, h _ he (Heap.get?_push_of_some _ (Heap.get?_push_size _ B.free)) (by rw [Heap.size_push, hz]) fun b o x => Heap.get?_push_of_some _ (Heap.get?_push_of_some _ x)⟩
def iEnumX (K : PySem.W.Frag) (ta : TA) : TI := fun σ H R => ta σ H fun vs H1 => ∃ kd a xs, vs = [.ref a] ∧ Sq K kd H1 a xs ∧ R (IteX K kd a) H1
theorem pi_enumX {X : Cx} {e : Expr} {ta : TA} {p pos tpos : Pos} {elts : List Expr} {kk : Nat} (hg : Gl X "enumerate") (hm : X.mg "enumerate" = none) (ha : PA X [e] ta) (hs : starEach [e] X.env = [(false, eval e X.env)] := by rfl) :
    PI X (.Tuple elts kk tpos) (.Call (.Name "enumerate" p) [e] [] pos) (iEnumX X.K ta) := by
  refine ⟨fun pins s σ H R I h => ?_⟩
  refine Call_ (ld_blt I hg hm boot_enumerate (PyProof.Rows.callWith_type1 (thn (ha.run pos pins s σ H _ I h) fun us s1 ⟨vs, H1, I1, r1, q1⟩ => ?_) hs rfl))
  obtain ⟨kd, a, xs, ex, hq, q⟩ := q1
  subst ex
  cases r1 with
  | cons r rr =>
    cases rr
    cases r
    obtain ⟨its, rv, p', hz⟩ := sq_run I1 hq
    refine enum_begins1 (begins_sq kd a its.toArray) p' fun h' he hit hsz hk => wpAny_pyIter_enum he ?_
    have I2 : Inv X pins σ H1 { s1 with heap := h' } := I1.kept (t' := s1.toks) hk
    refine ⟨s1.heap.objs.size + 1, [s1.heap.objs.size + 1, s1.heap.objs.size], _, _, H1, rfl, I2, turn_enumX kd a (s1.heap.objs.size + 1) s1.heap.objs.size, ⟨⟨.none, he⟩, iterObj_at hit, Nat.succ_ne_self _⟩, fun b hb => ?_, q⟩
    have e' : b = s1.heap.objs.size + 1 ∨ b = s1.heap.objs.size := by simpa using hb
    have hle : s1.heap.objs.size ≤ b := by
      rcases e' with z | z
      · rw [z]; exact Nat.le_add_right _ _
      · rw [z]; exact Nat.le_refl _
    exact I1.fpOk hle (I1.hok.fresh hle)

/-! ### zip of two -/
def ItzX (K : PySem.W.Frag) (ka kb : Bool) (a b : Addr) : It :=
  ⟨fun i H => ∃ (xs ys : List V) (x y : V), Sq K ka H a xs ∧ Sq K kb H b ys ∧ xs[i]? = some x ∧ ys[i]? = some y,
    fun i H v H' => ∃ T x y, v = .ref T ∧ H T = none ∧ H' = upd H T (.tup [x, y]) ∧ (∀ xs, Sq K ka H a xs → xs[i]? = some x) ∧ ∀ ys, Sq K kb H b ys → ys[i]? = some y,
    fun i H => ∃ xs ys : List V, Sq K ka H a xs ∧ Sq K kb H b ys ∧ min xs.length ys.length = i⟩
/-- the cells of a zip -/
structure ZA (z TI TO i1 i2 : Addr) : Prop where
  TIz : TI ≠ z
  TOz : TO ≠ z
  TITO : TI ≠ TO
  TIi1 : TI ≠ i1
  TIi2 : TI ≠ i2
  i1z : i1 ≠ z
  i2z : i2 ≠ z
  i1TO : i1 ≠ TO
  i2TO : i2 ≠ TO
  i12 : i1 ≠ i2
theorem za_new (N : Nat) : ZA (N + 4) (N + 2) (N + 3) N (N + 1) :=
  ⟨show (N + 2 : Nat) ≠ N + 4 by omega, show (N + 3 : Nat) ≠ N + 4 by omega, show (N + 2 : Nat) ≠ N + 3 by omega, show (N + 2 : Nat) ≠ N by omega, show (N + 2 : Nat) ≠ N + 1 by omega,
    show (N : Nat) ≠ N + 4 by omega, show (N + 1 : Nat) ≠ N + 4 by omega, show (N : Nat) ≠ N + 3 by omega, show (N + 1 : Nat) ≠ N + 3 by omega, show (N : Nat) ≠ N + 1 by omega⟩
theorem turn_zipX {P : Program} {w : World} {K : PySem.W.Frag} {elts : List Expr} {kk : Nat} {tpos : Pos} {ka kb : Bool} {a b z TI TO i1 i2 : Addr} (D : ZA z TI TO i1 i2) :
    Turn P w K (.Tuple elts kk tpos) (ItzX K ka kb a b) [z, TI, TO, i1, i2] z (fun i h => IsZip h z TI TO .none ∧ IsTupOf2 h TI (.ref i1) (.ref i2) ∧ (∃ x y, IsTupOf2 h TO x y) ∧ IterAt ka h i1 a i ∧ IterAt kb h i2 b i) where
  mem := by simp
  obj := fun i h st c hc => by
    obtain ⟨hz, hTI, ⟨x, y, hTO⟩, h1, h2⟩ := st
    have e' : c = z ∨ c = TI ∨ c = TO ∨ c = i1 ∨ c = i2 := by simpa using hc
    rcases e' with q | q | q | q | q
    · rw [q]; exact ⟨_, hz, fun v q => nomatch q⟩
    · rw [q]; exact ⟨_, hTI, fun v q => nomatch q⟩
    · rw [q]; exact ⟨_, hTO, fun v q => nomatch q⟩
    · rw [q]; exact h1.obj
    · rw [q]; exact h2.obj
  keep := fun i h h' st k => by
    obtain ⟨hz, hTI, ⟨x, y, hTO⟩, h1, h2⟩ := st
    exact ⟨k z (by simp) _ hz, k TI (by simp) _ hTI, ⟨x, y, k TO (by simp) _ hTO⟩, h1.keep fun o q => k i1 (by simp) o q, h2.keep fun o q => k i2 (by simp) o q⟩
  item := by
    intro X hP hw hK hc i pins s σ H E I hf st hg
    subst hP hw hK
    obtain ⟨hz, hTI, ⟨x0, y0, hTO⟩, h1, h2⟩ := st
    obtain ⟨xs, ys, x, y, hqx, hqy, hx, hy⟩ := hg
    obtain ⟨its, rv, p, _⟩ := sq_run I hqx
    obtain ⟨its2, rv2, p2, _⟩ := sq_run I hqy
    have hl1 := rv.length
    have hl2 := rv2.length
    have unt : ∀ {kd : Bool} {c : Addr} {zs : List V}, Sq X.K kd H c zs → c ∉ [z, TI, TO, i1, i2] := fun {kd c zs} hq hm => by
      -- what is walked is no cell of ours: the cells are untracked, and not of the module
      have hn := (hf c hm)
      cases kd with
      | true =>
        rcases hq with (q | ⟨o, q⟩) | ⟨o, its, n, q, _⟩
        · rw [hn.1] at q; cases q
        · rw [hn.1] at q; cases q
        · exact notK I hn q
      | false =>
        rcases hq with (q | ⟨o, q⟩) | ⟨o, its, n, q, _⟩
        · rw [hn.1] at q; cases q
        · rw [hn.1] at q; cases q
        · exact notK I hn q
    have ua := unt hqx
    have ub := unt hqy
    simp only [List.mem_cons, List.not_mem_nil, or_false, not_or] at ua ub
    have S : ZipSep2 z TI TO i1 i2 [i1, a] [i2, b] :=
      { TIz := D.TIz, TOz := D.TOz, TITO := D.TITO, TIi1 := D.TIi1, mem1 := by simp, zf1 := by simp [Ne.symm D.i1z, Ne.symm ua.1], Tf1 := by simp [Ne.symm D.i1TO, Ne.symm ua.2.2.1], TIi2 := D.TIi2, mem2 := by simp,
        zf2 := by simp [Ne.symm D.i2z, Ne.symm ub.1], Tf2 := by simp [Ne.symm D.i2TO, Ne.symm ub.2.2.1], sep1_2 := by simp [D.i12, Ne.symm ub.2.2.2.1], sep2_1 := by simp [Ne.symm D.i12, Ne.symm ua.2.2.2.2] }
    have W := GoesN.zip2 (elts := elts) (x1 := kk) (pos := tpos) S (draws_sq (prog := X.prog) (w := X.w) (A := X.A.in1) (I.ok.hd hc) ka i1 a ua.2.2.2.1 its.toArray) (draws_sq (prog := X.prog) (w := X.w) (A := X.A.in1) (I.ok.hd hc) kb i2 b ub.2.2.2.2 its2.toArray)
    have hlt : i < min its.toArray.size its2.toArray.size := by
      have g1 := (List.getElem?_eq_some_iff.mp hx).1
      have g2 := (List.getElem?_eq_some_iff.mp hy).1
      simp; omega
    refine W.goes i s _ E hlt ⟨hz, hTI, ⟨x0, y0, hTO⟩, ⟨h1, p⟩, h2, p2⟩ fun v h' tk hY st' hk htk => ?_
    obtain ⟨T, u, u2, rfl, hT, hu, hu2, hTup⟩ := hY
    obtain ⟨z', TI', TO', ⟨h1', _⟩, h2', _⟩ := st'
    obtain ⟨v1, hv1, r1⟩ := rv.get hx
    obtain ⟨v2, hv2, r2⟩ := rv2.get hy
    have e1 : v1 = u := by
      have q : its[i]? = some u := by simpa using hu
      rw [hv1] at q; exact Option.some.inj q
    have e2 : v2 = u2 := by
      have q : its2[i]? = some u2 := by simpa using hu2
      rw [hv2] at q; exact Option.some.inj q
    subst e1 e2
    have hn : H T = none := I.hok.fresh hT
    have new : ObjOk X.prog X.w (upd H T (.tup [x, y])) h' T (.tup [x, y]) := ⟨by show 2 ≤ sizeLine; decide, [v1, v2], .cons r1 (.cons r2 .nil), hTup⟩
    have I1 : Inv X pins σ (upd H T (.tup [x, y])) { s with heap := h', toks := tk } :=
      I.turnedNew (ch := [z, TI, TO, i1, i2]) (fun c ob hb q => hk c ob (fun q' => hb (by
        simp only [List.mem_cons, List.not_mem_nil, or_false] at q' ⊢
        rcases q' with q' | q' | q' | q' <;> simp [q'])) q) hf hT new
    refine ⟨.ref T, _, I1, rfl, ⟨T, x, y, rfl, hn, rfl, fun l hl => by rw [sq_inj I hl hqx]; exact hx, fun l hl => by rw [sq_inj I hl hqy]; exact hy⟩, ⟨z', TI', TO', h1', h2'⟩, fun c hcm => ?_⟩
    have hlt2 : c < s.heap.objs.size := by
      have e' : c = z ∨ c = TI ∨ c = TO ∨ c = i1 ∨ c = i2 := by simpa using hcm
      rcases e' with q | q | q | q | q
      · rw [q]; exact Heap.lt_size hz
      · rw [q]; exact Heap.lt_size hTI
      · rw [q]; exact Heap.lt_size hTO
      · rw [q]; obtain ⟨o, e, _⟩ := h1.obj; exact Heap.lt_size e
      · rw [q]; obtain ⟨o, e, _⟩ := h2.obj; exact Heap.lt_size e
    rw [upd_ne (Nat.ne_of_lt (Nat.lt_of_lt_of_le hlt2 hT))]
    exact (hf c hcm).1
  done := by
    intro X hP hw hK hc i pins s σ H E I hf st hg
    subst hP hw hK
    obtain ⟨hz, hTI, ⟨x0, y0, hTO⟩, h1, h2⟩ := st
    obtain ⟨xs, ys, hqx, hqy, hend⟩ := hg
    obtain ⟨its, rv, p, _⟩ := sq_run I hqx
    obtain ⟨its2, rv2, p2, _⟩ := sq_run I hqy
    have hl1 := rv.length
    have hl2 := rv2.length
    have unt : ∀ {kd : Bool} {c : Addr} {zs : List V}, Sq X.K kd H c zs → c ∉ [z, TI, TO, i1, i2] := fun {kd c zs} hq hm => by
      have hn := (hf c hm)
      cases kd with
      | true =>
        rcases hq with (q | ⟨o, q⟩) | ⟨o, its, n, q, _⟩
        · rw [hn.1] at q; cases q
        · rw [hn.1] at q; cases q
        · exact notK I hn q
      | false =>
        rcases hq with (q | ⟨o, q⟩) | ⟨o, its, n, q, _⟩
        · rw [hn.1] at q; cases q
        · rw [hn.1] at q; cases q
        · exact notK I hn q
    have ua := unt hqx
    have ub := unt hqy
    simp only [List.mem_cons, List.not_mem_nil, or_false, not_or] at ua ub
    have S : ZipSep2 z TI TO i1 i2 [i1, a] [i2, b] :=
      { TIz := D.TIz, TOz := D.TOz, TITO := D.TITO, TIi1 := D.TIi1, mem1 := by simp, zf1 := by simp [Ne.symm D.i1z, Ne.symm ua.1], Tf1 := by simp [Ne.symm D.i1TO, Ne.symm ua.2.2.1], TIi2 := D.TIi2, mem2 := by simp,
        zf2 := by simp [Ne.symm D.i2z, Ne.symm ub.1], Tf2 := by simp [Ne.symm D.i2TO, Ne.symm ub.2.2.1], sep1_2 := by simp [D.i12, Ne.symm ub.2.2.2.1], sep2_1 := by simp [Ne.symm D.i12, Ne.symm ua.2.2.2.2] }
    have W := GoesN.zip2 (elts := elts) (x1 := kk) (pos := tpos) S (draws_sq (prog := X.prog) (w := X.w) (A := X.A.in1) (I.ok.hd hc) ka i1 a ua.2.2.2.1 its.toArray) (draws_sq (prog := X.prog) (w := X.w) (A := X.A.in1) (I.ok.hd hc) kb i2 b ub.2.2.2.2 its2.toArray)
    have en : min its.toArray.size its2.toArray.size = i := by simp; omega
    rw [en] at W
    exact W.stops s _ E ⟨hz, hTI, ⟨x0, y0, hTO⟩, ⟨h1, p⟩, h2, p2⟩ fun h' tk hk htk => I.turnedL (t' := tk) (ch := [z, TI, TO, i1, i2]) (fun c o hb q => hk c o (fun q' => hb (by
        simp only [List.mem_cons, List.not_mem_nil, or_false] at q' ⊢
        rcases q' with q' | q' | q' | q' <;> simp [q'])) q) hf
  self := fun A i s Q E st h => wpAny_pyIter_zip st.1 h
def iZipX (K : PySem.W.Frag) (ta : TA) : TI := fun σ H R => ta σ H fun vs H1 => ∃ ka kb a b xs ys, vs = [.ref a, .ref b] ∧ Sq K ka H1 a xs ∧ Sq K kb H1 b ys ∧ R (ItzX K ka kb a b) H1
theorem pi_zipX {X : Cx} {e e2 : Expr} {ta : TA} {p pos tpos : Pos} {elts : List Expr} {kk : Nat} (hg : Gl X "zip") (hm : X.mg "zip" = none) (ha : PA X [e, e2] ta)
    (hs : starEach [e, e2] X.env = (false, eval e X.env) :: starEach [e2] X.env := by rfl) (hpl : (backTo pos (starEach [e2] X.env)).any (·.1) = false := by rfl) :
    PI X (.Tuple elts kk tpos) (.Call (.Name "zip" p) [e, e2] [] pos) (iZipX X.K ta) := by
  refine ⟨fun pins s σ H R I h => ?_⟩
  refine Call_ (ld_blt I hg hm PyProof.Rows.boot_zip (PyProof.Rows.callWith_type1 (thn (ha.run pos pins s σ H _ I h) fun us s1 ⟨vs, H1, I1, r1, q1⟩ => ?_) hs hpl))
  obtain ⟨ka, kb, a, b, xs, ys, ex, hqx, hqy, q⟩ := q1
  subst ex
  obtain ⟨u1, u2, rfl, e1, e2⟩ := vals2 r1
  cases e1
  cases e2
  obtain ⟨its, rv, p1, _⟩ := sq_run I1 hqx
  obtain ⟨its2, rv2, p2, _⟩ := sq_run I1 hqy
  refine zip_begins2 (begins_sq ka a its.toArray) (begins_sq kb b its2.toArray) p1 p2 fun h' hz hTI hTO h1 h2 hsz hk => wpAny_pyIter_zip hz ?_
  have I2 : Inv X pins σ H1 { s1 with heap := h' } := I1.kept (t' := s1.toks) hk
  refine ⟨s1.heap.objs.size + 4, [s1.heap.objs.size + 4, s1.heap.objs.size + 2, s1.heap.objs.size + 3, s1.heap.objs.size, s1.heap.objs.size + 1], _, _, H1, rfl, I2, turn_zipX (za_new s1.heap.objs.size), ⟨hz, hTI, ⟨_, _, hTO⟩, iterObj_at h1, iterObj_at h2⟩, fun c hcm => ?_, q⟩
  have e' : c = s1.heap.objs.size + 4 ∨ c = s1.heap.objs.size + 2 ∨ c = s1.heap.objs.size + 3 ∨ c = s1.heap.objs.size ∨ c = s1.heap.objs.size + 1 := by simpa using hcm
  have hle : s1.heap.objs.size ≤ c := by
    rcases e' with z | z | z | z | z
    · rw [z]; exact Nat.le_add_right _ _
    · rw [z]; exact Nat.le_add_right _ _
    · rw [z]; exact Nat.le_add_right _ _
    · rw [z]; exact Nat.le_refl _
    · rw [z]; exact Nat.le_add_right _ _
  exact I1.fpOk hle (I1.hok.fresh hle)
end FL

/-! F5: targets, for, while, comprehensions, statements. -/
namespace FL
open PySem PySem.Spec PyProof.Rows L2

/-- what a walk gives: data, or a tuple just made -/
def RpI (K : PySem.W.Frag) (sc : Option Addr) (F : Addr → Prop) (H : Hp) (v : V) (d : PyData) : Prop :=
  Rp K sc F H v d ∨ ∃ a xs es, v = .ref a ∧ d = .tuple es ∧ SqT K H a xs ∧ RpAll K sc F H xs es
def RpW (wk : Bool) (K : PySem.W.Frag) (sc : Option Addr) (F : Addr → Prop) (H : Hp) (v : V) (d : PyData) : Prop := match wk with
  | true => RpI K sc F H v d
  | false => Rp K sc F H v d
def RpX (b : Bool) (K : PySem.W.Frag) (x : Sx) (F : Addr → Prop) (H : Hp) (v : V) (d : PyData) : Prop := match b with
  | true => Rp K x.src F H v d
  | false => RpB K x F H v d
theorem RpX.b {b : Bool} {K : PySem.W.Frag} {x : Sx} {F : Addr → Prop} {H : Hp} {v : V} {d : PyData} (h : RpX b K x F H v d) : RpB K x F H v d := by
  cases b with
  | true => exact .inl h
  | false => exact h
/-- the items of a walk, while the things kept in mind stand -/
structure FIt (K : PySem.W.Frag) (x : Sx) (wk : Bool) (J : It) (gs : List (V × PyData)) (ds : List PyData) : Prop where
  goes : ∀ F i H, i < ds.length → (∀ v d, (v, d) ∈ gs → RpB K x F H v d) → J.go i H
  stops : ∀ F H, (∀ v d, (v, d) ∈ gs → RpB K x F H v d) → J.stop ds.length H
  yields : ∀ F i H v H', i < ds.length → (∀ v d, (v, d) ∈ gs → RpB K x F H v d) → J.yld i H v H' → Same H H' ∧ ∃ d, ds[i]? = some d ∧ RpW wk K x.src F H' v d
def tFI (K : PySem.W.Frag) (x : Sx) (O : Nat → Bool) (b wk : Bool) (f : FA_) : TI := fun σ H R => ∃ Pn gh G own env P, ER K x O Pn gh G own σ H env ∧ f env P ∧ ∀ ds, P ds → ∀ J H' gs, Keep x.S H H' → x.SI H' →
  (∀ v d, (v, d) ∈ gs → RpX b K x (Fo G own) H' v d) → FIt K x wk J gs ds → R J H'
abbrev FI (x : Sx) (O : Nat → Bool) (b wk : Bool) (X : Cx) (tg iter : Expr) (f : FA_) : Prop := PI X tg iter (tFI X.K x O b wk f)
theorem _root_.L2.PI.imp {X : Cx} {tg iter : Expr} {t t' : TI} (h : PI X tg iter t) (i : ∀ σ H Q, t' σ H Q → t σ H Q) : PI X tg iter t' := ⟨fun pins s σ H Q I q => h.run pins s σ H Q I (i _ _ _ q)⟩
theorem FIt.weak {K : PySem.W.Frag} {x : Sx} {J : It} {gs : List (V × PyData)} {ds : List PyData} (h : FIt K x false J gs ds) : FIt K x true J gs ds :=
  ⟨h.goes, h.stops, fun F i H v H' hi hg hy => let ⟨a, d, e, r⟩ := h.yields F i H v H' hi hg hy; ⟨a, d, e, .inl r⟩⟩
section
variable {X : Cx} {x : Sx} {O : Nat → Bool} {pos : Pos} {a b c e : Expr} {fa fb fc : FE_} {es : List Expr} {fr : FA_} {tg : Expr}
theorem fi_weak {bb : Bool} {iter : Expr} {f : FA_} (h : FI x O bb false X tg iter f) : FI x O bb true X tg iter f :=
  h.imp fun σ H R ⟨Pn, gh, G, own, env, P, E, q, k⟩ => ⟨Pn, gh, G, own, env, P, E, q, fun ds p J H' gs kk si hg F => k ds p J H' gs kk si hg F.weak⟩

/-! ### a list, a tuple -/
theorem pi_seq {l : Expr} {tl : TE} (hl : PE X l tl) : PI X tg l (fun σ H R => tl σ H fun x H1 => ∃ a, x = .ref a ∧ (((∃ xs, SqL X.K H1 a xs) ∧ R (Itl X.K a) H1) ∨ ((∃ xs, SqT X.K H1 a xs) ∧ R (Itt X.K a) H1))) := by
  refine ⟨fun pins s σ H R I h => ?_⟩
  refine thn (hl.run pins s σ H _ I h) fun v s1 ⟨x, H1, I1, r1, q1⟩ => ?_
  obtain ⟨a, e, q⟩ := q1
  subst e
  cases r1
  rcases q with ⟨⟨xs, hq⟩, q⟩ | ⟨⟨xs, hq⟩, q⟩
  · obtain ⟨its, rv, p, hz⟩ := I1.list hq
    refine wpAny_pyIter_list p.isList ?_
    refine ⟨s1.heap.objs.size, [s1.heap.objs.size], _, _, H1, rfl, I1.kept (t' := s1.toks) fun b o e => Heap.get?_push_of_some _ e, turn_list a _, ⟨_, Heap.get?_push_size _ rfl, rfl, rfl⟩, fun b hb => ?_, q⟩
    have e : b = s1.heap.objs.size := by simpa using hb
    subst e
    exact I1.fpOk (Nat.le_refl _) (I1.hok.fresh (Nat.le_refl _))
  · obtain ⟨its, rv, p, hz⟩ := I1.tuple hq
    refine wpAny_pyIter_tuple (show s1.heap.IsTuple a its.toArray from p) ?_
    refine ⟨s1.heap.objs.size, [s1.heap.objs.size], _, _, H1, rfl, I1.kept (t' := s1.toks) fun b o e => Heap.get?_push_of_some _ e, turn_tuple a _, ⟨_, Heap.get?_push_size _ rfl, rfl, rfl⟩, fun b hb => ?_, q⟩
    have e : b = s1.heap.objs.size := by simpa using hb
    subst e
    exact I1.fpOk (Nat.le_refl _) (I1.hok.fresh (Nat.le_refl _))
def fSeq (fa : FE_) : FA_ := fun env P => fa env fun d => match d with
  | .list ds => P ds
  | .tuple ds => P ds
  | _ => False
theorem fit_list {K : PySem.W.Frag} {a : Addr} {ds : List PyData} : FIt K x false (Itl K a) [(.ref a, .list ds)] ds where
  goes := fun F i H hi hg => by
    obtain ⟨p, xs, e, hp, r⟩ := (hg _ _ (List.mem_singleton.mpr rfl)).lst
    cases e
    obtain ⟨v, h1, h2⟩ := r.get (List.getElem?_eq_getElem hi)
    exact ⟨xs, v, SqL.of hp, h1⟩
  stops := fun F H hg => by
    obtain ⟨p, xs, e, hp, r⟩ := (hg _ _ (List.mem_singleton.mpr rfl)).lst
    cases e
    exact ⟨xs, SqL.of hp, Nat.le_of_eq r.length⟩
  yields := fun F i H v H' hi hg hy => by
    obtain ⟨p, xs, e, hp, r⟩ := (hg _ _ (List.mem_singleton.mpr rfl)).lst
    cases e
    obtain ⟨rfl, f⟩ := hy
    obtain ⟨d, h1, h2⟩ := r.getV (f xs (SqL.of hp))
    exact ⟨Same.refl _, d, h1, h2⟩
theorem fit_tuple {K : PySem.W.Frag} {a : Addr} {ds : List PyData} : FIt K x false (Itt K a) [(.ref a, .tuple ds)] ds where
  goes := fun F i H hi hg => by
    obtain ⟨p, o, xs, e, hp, hd, r⟩ := (hg _ _ (List.mem_singleton.mpr rfl)).tup
    cases e
    obtain ⟨v, h1, h2⟩ := r.get (List.getElem?_eq_getElem hi)
    exact ⟨xs, v, sqT_of hp, h1⟩
  stops := fun F H hg => by
    obtain ⟨p, o, xs, e, hp, hd, r⟩ := (hg _ _ (List.mem_singleton.mpr rfl)).tup
    cases e
    exact ⟨xs, sqT_of hp, Nat.le_of_eq r.length⟩
  yields := fun F i H v H' hi hg hy => by
    obtain ⟨p, o, xs, e, hp, hd, r⟩ := (hg _ _ (List.mem_singleton.mpr rfl)).tup
    cases e
    obtain ⟨rfl, f⟩ := hy
    obtain ⟨d, h1, h2⟩ := r.getV (f xs (sqT_of hp))
    exact ⟨Same.refl _, d, h1, h2⟩
theorem ghost1 {K : PySem.W.Frag} {bb : Bool} {F : Addr → Prop} {H : Hp} {v : V} {d : PyData} (h : RpX bb K x F H v d) : ∀ v' d', (v', d') ∈ [(v, d)] → RpX bb K x F H v' d' := fun v' d' hm => by
  cases List.mem_singleton.mp hm
  exact h
theorem seq_go {bb : Bool} {t : TE} (ht : ∀ σ H Q, (∃ Pn gh G own env P, ER X.K x O Pn gh G own σ H env ∧ fa env P ∧ ∀ d, P d → ∀ v H', Keep x.S H H' → x.SI H' → RpX bb X.K x (Fo G own) H' v d → Q v H') → t σ H Q) {σ : L2.St} {H : Hp} {R : It → Hp → Prop}
    (h : tFI X.K x O bb false (fSeq fa) σ H R) : t σ H fun x H1 => ∃ a, x = .ref a ∧ (((∃ xs, SqL X.K H1 a xs) ∧ R (Itl X.K a) H1) ∨ ((∃ xs, SqT X.K H1 a xs) ∧ R (Itt X.K a) H1)) := by
  obtain ⟨Pn, gh, G, own, env, P, E, q, k⟩ := h
  refine ht _ _ _ ⟨Pn, gh, G, own, env, _, E, q, fun d q1 v H1 k1 s1 r1 => ?_⟩
  split at q1
  · obtain ⟨p, xs, rfl, hp, r⟩ := r1.b.lst
    exact ⟨p, rfl, .inl ⟨⟨xs, SqL.of hp⟩, k _ q1 _ H1 [(.ref p, .list _)] k1 s1 (ghost1 r1) fit_list⟩⟩
  · obtain ⟨p, o, xs, rfl, hp, hd, r⟩ := r1.b.tup
    exact ⟨p, rfl, .inr ⟨⟨xs, sqT_of hp⟩, k _ q1 _ H1 [(.ref p, .tuple _)] k1 s1 (ghost1 r1) fit_tuple⟩⟩
  · exact q1.elim
theorem fi_seq (ha : FE x O X a fa) : FI x O true false X tg a (fSeq fa) := (pi_seq ha).imp fun _ _ _ h => seq_go (bb := true) (fun _ _ _ z => z) h
theorem fi_seqB (ha : FB x O X a fa) : FI x O false false X tg a (fSeq fa) := (pi_seq ha).imp fun _ _ _ h => seq_go (bb := false) (fun _ _ _ z => z) h

/-! ### ranges -/
def rangeD (lo : Int) (n : Nat) : List PyData := (List.range n).map fun i => .int (lo + (i : Nat))
theorem fit_range {K : PySem.W.Frag} {lo : Int} {n : Nat} : FIt K x false (Itr lo n) [] (rangeD lo n) where
  goes := fun F i H hi _ => by
    unfold rangeD at hi
    show i < n
    simpa using hi
  stops := fun F H _ => by
    unfold rangeD
    simp [Itr]
  yields := fun F i H v H' hi _ hy => by
    obtain ⟨rfl, rfl⟩ := hy
    unfold rangeD at hi ⊢
    have hi' : i < n := by simpa using hi
    exact ⟨Same.refl _, _, by rw [List.getElem?_map, List.getElem?_range hi']; rfl, .int _⟩
def fRange1 (fr : FA_) : FA_ := fun env P => fr env fun ds => match ds with
  | [.int j] => (-(2 ^ 62) ≤ j ∧ j < 2 ^ 62) ∧ P (rangeD 0 j.toNat)
  | _ => False
def fRange2 (fr : FA_) : FA_ := fun env P => fr env fun ds => match ds with
  | [.int i, .int j] => ((-(2 ^ 62) ≤ i ∧ i < 2 ^ 62) ∧ -(2 ^ 62) ≤ j ∧ j < 2 ^ 62) ∧ P (rangeD i (j - i).toNat)
  | _ => False
theorem fi_range1 {bb : Bool} {p : Pos} (hg : Gl X "range") (hm : X.mg "range" = none) (ha : FAB x O X [a] fr) (hs : starEach [a] X.env = [(false, eval a X.env)] := by rfl) : FI x O bb false X tg (.Call (.Name "range" p) [a] [] pos) (fRange1 fr) :=
  (pi_range1 hg hm ha hs).imp fun σ H R ⟨Pn, gh, G, own, env, P, E, q, k⟩ => by
    refine ⟨Pn, gh, G, own, env, _, E, q, fun ds q1 vs H1 k1 s1 r1 => ?_⟩
    split at q1
    · obtain ⟨v, rfl, r⟩ := rpb1 r1
      exact ⟨_, by rw [r.int], q1.1.1, q1.1.2, k _ q1.2 _ H1 [] k1 s1 (fun _ _ z => by cases z) fit_range⟩
    · exact q1.elim
theorem fi_range2 {bb : Bool} {p : Pos} (hg : Gl X "range") (hm : X.mg "range" = none) (ha : FAB x O X [a, b] fr) (hs : starEach [a, b] X.env = [(false, eval a X.env), (false, eval b X.env)] := by rfl) (hs2 : starEach [b] X.env = [(false, eval b X.env)] := by rfl) :
    FI x O bb false X tg (.Call (.Name "range" p) [a, b] [] pos) (fRange2 fr) :=
  (pi_range2 hg hm ha hs hs2).imp fun σ H R ⟨Pn, gh, G, own, env, P, E, q, k⟩ => by
    refine ⟨Pn, gh, G, own, env, _, E, q, fun ds q1 vs H1 k1 s1 r1 => ?_⟩
    split at q1
    · obtain ⟨v, w, rfl, r, r'⟩ := rpb2 r1
      exact ⟨_, _, by rw [r.int, r'.int], ⟨q1.1.1.1, q1.1.1.2, q1.1.2.1, q1.1.2.2⟩, k _ q1.2 _ H1 [] k1 s1 (fun _ _ z => by cases z) fit_range⟩
    · exact q1.elim

/-! ### enumerate, zip -/
def kdOf : PyData → Option (Bool × List PyData)
  | .list ds => some (true, ds)
  | .tuple ds => some (false, ds)
  | _ => none
theorem RpB.sq {K : PySem.W.Frag} {F : Addr → Prop} {H : Hp} {v : V} {d : PyData} {kd : Bool} {ds : List PyData} (h : RpB K x F H v d) (e : kdOf d = some (kd, ds)) : ∃ p xs, v = .ref p ∧ Sq K kd H p xs ∧ RpAll K x.src F H xs ds := by
  cases d with
  | list es =>
    cases e
    obtain ⟨p, xs, e1, hp, r⟩ := h.lst
    exact ⟨p, xs, e1, SqL.of hp, r⟩
  | tuple es =>
    cases e
    obtain ⟨p, o, xs, e1, hp, hd, r⟩ := h.tup
    exact ⟨p, xs, e1, sqT_of hp, r⟩
  | _ => cases e
def enumD (ds : List PyData) : List PyData := (List.range ds.length).zipWith (fun i d => .tuple [.int (i : Nat), d]) ds
theorem enumD_length (ds : List PyData) : (enumD ds).length = ds.length := by simp [enumD]
theorem enumD_get {ds : List PyData} {i : Nat} {d : PyData} (h : ds[i]? = some d) : (enumD ds)[i]? = some (.tuple [.int (i : Nat), d]) := by
  have hi := (List.getElem?_eq_some_iff.mp h).1
  unfold enumD
  rw [List.getElem?_zipWith, List.getElem?_range hi, h]
theorem fit_enum {K : PySem.W.Frag} {a : Addr} {d : PyData} {kd : Bool} {ds : List PyData} (e : kdOf d = some (kd, ds)) : FIt K x true (IteX K kd a) [(.ref a, d)] (enumD ds) where
  goes := fun F i H hi hg => by
    obtain ⟨p, xs, e, hp, r⟩ := (hg _ _ (List.mem_singleton.mpr rfl)).sq e
    cases e
    rw [enumD_length] at hi
    obtain ⟨v, h1, h2⟩ := r.get (List.getElem?_eq_getElem hi)
    exact ⟨xs, v, hp, h1⟩
  stops := fun F H hg => by
    obtain ⟨p, xs, e, hp, r⟩ := (hg _ _ (List.mem_singleton.mpr rfl)).sq e
    cases e
    rw [enumD_length]
    exact ⟨xs, hp, r.length⟩
  yields := fun F i H v H' hi hg hy => by
    obtain ⟨p, xs, e, hp, r⟩ := (hg _ _ (List.mem_singleton.mpr rfl)).sq e
    cases e
    obtain ⟨T, y, rfl, hT, rfl, f⟩ := hy
    obtain ⟨d', h1, h2⟩ := r.getV (f xs hp)
    have h2' : Rp K x.src F (upd H T (.tup [.int (i : Nat), y])) y d' := h2.keep (fun a o e _ => same_upd hT a o e) (fun a _ ys e => same_upd hT a _ e) fun a z => .inl z
    exact ⟨same_upd hT, _, enumD_get h1, .inr ⟨T, _, _, rfl, rfl, .inl (.inl upd_same), .cons (.int _) (.cons h2' .nil)⟩⟩
def fEnum (fr : FA_) : FA_ := fun env P => fr env fun as => match as with
  | [d] => (match kdOf d with
    | some (_, ds) => P (enumD ds)
    | none => False)
  | _ => False
theorem rpa1 {K : PySem.W.Frag} {F : Addr → Prop} {H : Hp} {vs : List V} {d : PyData} (h : RpAll K x.src F H vs [d]) : ∃ v, vs = [v] ∧ Rp K x.src F H v d := by
  cases h with
  | cons h r => cases r; exact ⟨_, rfl, h⟩
theorem rpa2 {K : PySem.W.Frag} {F : Addr → Prop} {H : Hp} {vs : List V} {d e : PyData} (h : RpAll K x.src F H vs [d, e]) : ∃ v w, vs = [v, w] ∧ Rp K x.src F H v d ∧ Rp K x.src F H w e := by
  cases h with
  | cons h r =>
    obtain ⟨w, e1, r'⟩ := rpa1 r
    subst e1
    exact ⟨_, _, rfl, h, r'⟩
variable {tpos : Pos} {elts : List Expr} {kk : Nat} {p : Pos}
theorem fi_enum (hg : Gl X "enumerate") (hm : X.mg "enumerate" = none) (ha : FA x O X [a] fr) (hs : starEach [a] X.env = [(false, eval a X.env)] := by rfl) : FI x O true true X (.Tuple elts kk tpos) (.Call (.Name "enumerate" p) [a] [] pos) (fEnum fr) :=
  (pi_enumX hg hm ha hs).imp fun σ H R ⟨Pn, gh, G, own, env, P, E, q, k⟩ => by
    refine ⟨Pn, gh, G, own, env, _, E, q, fun as q1 vs H1 k1 s1 r1 => ?_⟩
    split at q1
    · split at q1
      · rename_i kd ds ek
        obtain ⟨v, rfl, r⟩ := rpa1 r1
        obtain ⟨p, xs, rfl, hp, r'⟩ := (RpB.of r).sq ek
        exact ⟨kd, p, xs, rfl, hp, k _ q1 _ H1 [(.ref p, _)] k1 s1 (ghost1 r) (fit_enum ek)⟩
      · exact q1.elim
    · exact q1.elim
theorem fi_enumB (hg : Gl X "enumerate") (hm : X.mg "enumerate" = none) (ha : FAB x O X [a] fr) (hs : starEach [a] X.env = [(false, eval a X.env)] := by rfl) : FI x O false true X (.Tuple elts kk tpos) (.Call (.Name "enumerate" p) [a] [] pos) (fEnum fr) :=
  (pi_enumX hg hm ha hs).imp fun σ H R ⟨Pn, gh, G, own, env, P, E, q, k⟩ => by
    refine ⟨Pn, gh, G, own, env, _, E, q, fun as q1 vs H1 k1 s1 r1 => ?_⟩
    split at q1
    · split at q1
      · rename_i kd ds ek
        obtain ⟨v, rfl, r⟩ := rpb1 r1
        obtain ⟨p, xs, rfl, hp, r'⟩ := r.sq ek
        exact ⟨kd, p, xs, rfl, hp, k _ q1 _ H1 [(.ref p, _)] k1 s1 (ghost1 (bb := false) r) (fit_enum ek)⟩
      · exact q1.elim
    · exact q1.elim
def zipD (ds es : List PyData) : List PyData := ds.zipWith (fun d e => .tuple [d, e]) es
theorem zipD_length (ds es : List PyData) : (zipD ds es).length = min ds.length es.length := by simp [zipD]
theorem zipD_get {ds es : List PyData} {i : Nat} {d e : PyData} (h : ds[i]? = some d) (h' : es[i]? = some e) : (zipD ds es)[i]? = some (.tuple [d, e]) := by
  unfold zipD
  rw [List.getElem?_zipWith, h, h']
theorem fit_zip {K : PySem.W.Frag} {a b : Addr} {d e : PyData} {ka kb : Bool} {ds es : List PyData} (ea : kdOf d = some (ka, ds)) (eb : kdOf e = some (kb, es)) : FIt K x true (ItzX K ka kb a b) [(.ref a, d), (.ref b, e)] (zipD ds es) where
  goes := fun F i H hi hg => by
    obtain ⟨p, xs, e1, hp, r⟩ := (hg (.ref a) d (by simp)).sq ea
    obtain ⟨p', ys, e2, hp', r'⟩ := (hg (.ref b) e (by simp)).sq eb
    cases e1
    cases e2
    rw [zipD_length] at hi
    obtain ⟨v, h1, h2⟩ := r.get (List.getElem?_eq_getElem (show i < ds.length by omega))
    obtain ⟨v', h1', h2'⟩ := r'.get (List.getElem?_eq_getElem (show i < es.length by omega))
    exact ⟨xs, ys, v, v', hp, hp', h1, h1'⟩
  stops := fun F H hg => by
    obtain ⟨p, xs, e1, hp, r⟩ := (hg (.ref a) d (by simp)).sq ea
    obtain ⟨p', ys, e2, hp', r'⟩ := (hg (.ref b) e (by simp)).sq eb
    cases e1
    cases e2
    rw [zipD_length]
    exact ⟨xs, ys, hp, hp', by rw [r.length, r'.length]⟩
  yields := fun F i H v H' hi hg hy => by
    obtain ⟨p, xs, e1, hp, r⟩ := (hg (.ref a) d (by simp)).sq ea
    obtain ⟨p', ys, e2, hp', r'⟩ := (hg (.ref b) e (by simp)).sq eb
    cases e1
    cases e2
    obtain ⟨T, u, w, rfl, hT, rfl, f1, f2⟩ := hy
    obtain ⟨d1, h1, h2⟩ := r.getV (f1 xs hp)
    obtain ⟨d2, h1', h2'⟩ := r'.getV (f2 ys hp')
    have up : ∀ {v d}, Rp K x.src F H v d → Rp K x.src F (upd H T (.tup [u, w])) v d := fun h => h.keep (fun a o e _ => same_upd hT a o e) (fun a _ ys e => same_upd hT a _ e) fun a z => .inl z
    exact ⟨same_upd hT, _, zipD_get h1 h1', .inr ⟨T, _, _, rfl, rfl, .inl (.inl upd_same), .cons (up h2) (.cons (up h2') .nil)⟩⟩
def fZip (fr : FA_) : FA_ := fun env P => fr env fun as => match as with
  | [d, e] => (match kdOf d, kdOf e with
    | some (_, ds), some (_, es) => P (zipD ds es)
    | _, _ => False)
  | _ => False
theorem ER.rpX {Pn : Addr → HO → Prop} {gh : List (V × PyData)} {G : Addr → Prop} {own : Nat → Option Addr} {σ : L2.St} {env : Ev} {H H' : Hp} {K : PySem.W.Frag} {bb : Bool} (E : ER K x O Pn gh G own σ H env) (k : Keep x.S H H') {v : V} {d : PyData} (h : RpX bb K x (Fo G own) H v d) : RpX bb K x (Fo G own) H' v d := by
  cases bb with
  | true => exact E.rp k h
  | false => exact E.rpB k h
theorem ghost2 {K : PySem.W.Frag} {bb : Bool} {F : Addr → Prop} {H : Hp} {v w : V} {d e : PyData} (h : RpX bb K x F H v d) (h' : RpX bb K x F H w e) : ∀ v' d', (v', d') ∈ [(v, d), (w, e)] → RpX bb K x F H v' d' := fun v' d' hm => by
  rcases List.mem_cons.mp hm with z | hm
  · cases z; exact h
  · cases List.mem_singleton.mp hm; exact h'
theorem fi_zip (hg : Gl X "zip") (hm : X.mg "zip" = none) (ha : FA x O X [a, b] fr) (hs : starEach [a, b] X.env = (false, eval a X.env) :: starEach [b] X.env := by rfl) (hpl : (backTo pos (starEach [b] X.env)).any (·.1) = false := by rfl) :
    FI x O true true X (.Tuple elts kk tpos) (.Call (.Name "zip" p) [a, b] [] pos) (fZip fr) :=
  (pi_zipX hg hm ha hs hpl).imp fun σ H R ⟨Pn, gh, G, own, env, P, E, q, k⟩ => by
    refine ⟨Pn, gh, G, own, env, _, E, q, fun as q1 vs H1 k1 s1 r1 => ?_⟩
    split at q1
    · split at q1
      · rename_i ka ds kb es ea eb
        obtain ⟨v, w, rfl, r, r'⟩ := rpa2 r1
        obtain ⟨p, xs, rfl, hp, _⟩ := (RpB.of r).sq ea
        obtain ⟨p', ys, rfl, hp', _⟩ := (RpB.of r').sq eb
        exact ⟨ka, kb, p, p', xs, ys, rfl, hp, hp', k _ q1 _ H1 [(.ref p, _), (.ref p', _)] k1 s1 (ghost2 (bb := true) r r') (fit_zip ea eb)⟩
      · exact q1.elim
    · exact q1.elim
theorem fi_zipB (hg : Gl X "zip") (hm : X.mg "zip" = none) (ha : FAB x O X [a, b] fr) (hs : starEach [a, b] X.env = (false, eval a X.env) :: starEach [b] X.env := by rfl) (hpl : (backTo pos (starEach [b] X.env)).any (·.1) = false := by rfl) :
    FI x O false true X (.Tuple elts kk tpos) (.Call (.Name "zip" p) [a, b] [] pos) (fZip fr) :=
  (pi_zipX hg hm ha hs hpl).imp fun σ H R ⟨Pn, gh, G, own, env, P, E, q, k⟩ => by
    refine ⟨Pn, gh, G, own, env, _, E, q, fun as q1 vs H1 k1 s1 r1 => ?_⟩
    split at q1
    · split at q1
      · rename_i ka ds kb es ea eb
        obtain ⟨v, w, rfl, r, r'⟩ := rpb2 r1
        obtain ⟨p, xs, rfl, hp, _⟩ := r.sq ea
        obtain ⟨p', ys, rfl, hp', _⟩ := r'.sq eb
        exact ⟨ka, kb, p, p', xs, ys, rfl, hp, hp', k _ q1 _ H1 [(.ref p, _), (.ref p', _)] k1 s1 (ghost2 (bb := false) r r') (fit_zip ea eb)⟩
      · exact q1.elim
    · exact q1.elim
end

/-! ### targets -/
def tGW (K : PySem.W.Frag) (x : Sx) (O : Nat → Bool) (wk : Bool) (vs : List Nat) (g : FG_) : TG := fun v σ H Q => ∃ Pn gh G own env d P, ER K x O Pn gh G own σ H env ∧ RpW wk K x.src (Fo G own) H v d ∧ g d env P ∧
  ∀ env', P env' → ∀ σ', ER K x O Pn gh G own σ' H env' → (∀ i, i ∉ vs → σ'[i]? = σ[i]?) → σ'.length = σ.length → Q σ' H
abbrev GW (x : Sx) (O : Nat → Bool) (wk : Bool) (vs : List Nat) (X : Cx) (e : Expr) (g : FG_) : Prop := PG X e (tGW X.K x O wk vs g)
abbrev FGs_ := List PyData → Ev → (Ev → Prop) → Prop
def tGs (K : PySem.W.Frag) (x : Sx) (O : Nat → Bool) (vs : List Nat) (g : FGs_) : TGs := fun us σ H Q => ∃ Pn gh G own env ds P, ER K x O Pn gh G own σ H env ∧ RpAll K x.src (Fo G own) H us ds ∧ g ds env P ∧
  ∀ env', P env' → ∀ σ', ER K x O Pn gh G own σ' H env' → (∀ i, i ∉ vs → σ'[i]? = σ[i]?) → σ'.length = σ.length → Q σ' H
theorem _root_.L2.PGs.imp {X : Cx} {es : List Expr} {t t' : TGs} (h : PGs X es t) (i : ∀ v σ H Q, t' v σ H Q → t v σ H Q) : PGs X es t' := ⟨fun pins s σ H v u Q I r q => h.run pins s σ H v u Q I r (i _ _ _ _ q)⟩
section
variable {X : Cx} {x : Sx} {O : Nat → Bool} {pos : Pos} {e : Expr} {es : List Expr}
def gVar (i : Nat) : FG_ := fun d env P => P (env.set i (some d))
theorem gw_name {i : Nat} {nm : Str} (hN : X.N.Nodup) (hO : O i = false := by rfl) (hi : X.N[i]? = some nm := by rfl) (hx : Loc X.env.scope nm := by first | exact .inl rfl | exact .inr rfl) (hf : X.fn nm = true ∨ X.env.scope.names.lookup nm = some .local := by first | exact .inl rfl | exact .inr rfl | assumption) :
    GW x O false [i] X (.Name nm pos) (gVar i) := (pg_name hN hi hx hf).imp fun v σ H Q ⟨Pn, gh, G, own, env, d, P, E, r, q, k⟩ =>
  k _ q _ (E.put hO r) (fun j hj => by rw [List.getElem?_set_ne (fun z => hj (by simp [z]))]) (List.length_set ..)
/-- to a slot that may own a list: no list comes -/
def gVarT (i : Nat) : FG_ := fun d env P => (∀ ds, d ≠ .list ds) ∧ P (env.set i (some d))
theorem gw_nameT {i : Nat} {nm : Str} (hN : X.N.Nodup) (hO : O i = true := by rfl) (hi : X.N[i]? = some nm := by rfl) (hx : Loc X.env.scope nm := by first | exact .inl rfl | exact .inr rfl) (hf : X.fn nm = true ∨ X.env.scope.names.lookup nm = some .local := by first | exact .inl rfl | exact .inr rfl | assumption) :
    GW x O false [i] X (.Name nm pos) (gVarT i) := (pg_name hN hi hx hf).imp fun v σ H Q ⟨Pn, gh, G, own, env, d, P, E, r, q, k⟩ =>
  k _ q.2 _ (E.putT hO r q.1) (fun j hj => by rw [List.getElem?_set_ne (fun z => hj (by simp [z]))]) (List.length_set ..)
def gsNil : FGs_ := fun ds env P => ds = [] ∧ P env
def gsCons (g : FG_) (gs : FGs_) : FGs_ := fun ds env P => match ds with
  | d :: r => g d env fun env1 => gs r env1 P
  | [] => False
theorem gs_nil : PGs X [] (tGs X.K x O [] gsNil) := pgs_nil.imp fun v σ H Q ⟨Pn, gh, G, own, env, ds, P, E, r, q, k⟩ => by
  obtain ⟨rfl, q⟩ := q
  cases r
  exact ⟨rfl, k _ q _ E (fun _ _ => rfl) rfl⟩
theorem gs_cons {wk : Bool} {vs us : List Nat} {g : FG_} {gs : FGs_} (h1 : GW x O wk vs X e g) (h2 : PGs X es (tGs X.K x O us gs)) (hs : (assignEach (e :: es) X.env).map (·.2) = assign e X.env :: (assignEach es X.env).map (·.2) := by rfl) :
    PGs X (e :: es) (tGs X.K x O (vs ++ us) (gsCons g gs)) := (pgs_cons h1 h2 hs).imp fun w σ H Q ⟨Pn, gh, G, own, env, ds, P, E, r, q, k⟩ => by
  cases r with
  | nil => exact q.elim
  | cons r rr =>
    refine ⟨_, _, rfl, Pn, gh, G, own, env, _, _, E, ?_, q, fun env1 q1 σ1 E1 d1 l1 => ⟨Pn, gh, G, own, env1, _, P, E1, rr, q1, fun env2 q2 σ2 E2 d2 l2 => k _ q2 _ E2 (fun i hi => ?_) (l2.trans l1)⟩⟩
    · cases wk with
      | true => exact .inl r
      | false => exact r
    · rw [List.mem_append, not_or] at hi
      rw [d2 i hi.2, d1 i hi.1]
def gTupD (n : Nat) (gs : FGs_) : FG_ := fun d env P => match d with
  | .tuple ds => ds.length = n ∧ gs ds env P
  | _ => False
theorem gw_tup {wk : Bool} {k : Nat} {n : Nat} {vs : List Nat} {gs : FGs_} (hc : X.calm = true) (h : PGs X es (tGs X.K x O vs gs)) (hn : (assignEach es X.env).length = n := by rfl) (hst : (assignEach es X.env).findIdx? (·.1) = none := by rfl) :
    GW x O wk vs X (.Tuple es k pos) (gTupD n gs) := (pg_tup hc h hn hst).imp fun v σ H Q ⟨Pn, gh, G, own, env, d, P, E, r, q, kk⟩ => by
  have r' : RpI X.K x.src (Fo G own) H v d := by
    cases wk with
    | true => exact r
    | false => exact .inl r
  unfold gTupD at q
  split at q
  · rcases r' with r' | ⟨a, xs, es', rfl, e2, ha, r'⟩
    · cases r' with
      | tup h hd r' => exact ⟨_, _, rfl, sqT_of h, by rw [r'.length]; exact q.1, Pn, gh, G, own, env, _, P, E, r', q.2, kk⟩
    · cases e2
      exact ⟨a, xs, rfl, ha, by rw [r'.length]; exact q.1, Pn, gh, G, own, env, _, P, E, r', q.2, kk⟩
  · exact q.elim
end

/-! ### for -/
def fLoop (g : FG_) (gb : FS_) (k : FK) : List PyData → Ev → Prop
  | [], env => k.nx env
  | d :: ds, env => g d env fun env1 => gb { nx := fLoop g gb k ds, rt := k.rt, bk := k.nx, ct := fLoop g gb k ds } env1
def fFor (fi : FA_) (g : FG_) (gb : FS_) : FS_ := fun k env => fi env fun ds => fLoop g gb k ds env
section
variable {X : Cx} {x : Sx} {O : Nat → Bool} {pos : Pos} {tg iter e : Expr} {body : List Stmt} {st : Stmt}
theorem drop_cons {α : Type} {ds : List α} {i : Nat} (h : i < ds.length) : ds.drop i = ds[i] :: ds.drop (i + 1) := by
  rw [List.drop_eq_getElem_cons h]
theorem fs_for {wk : Bool} {vs : List Nat} {fi : FA_} {g : FG_} {gb : FS_} (hp : PassesOwn (model X.prog X.w) X.A X.env X.xe) (hc : X.calm = true) (hi : FI x O true wk X tg iter fi) (hg : GW x O wk vs X tg g) (hb : FSs x O X body gb)
    (hs : ∀ x, foldedSetIterable iter X.env x = pure x := by intro _; rfl) : FS x O X (.For tg iter body [] pos) (fFor fi g gb) :=
  (ps_for hp hc hi hg hb hs).imp fun D σ H ⟨Pn, gh, G, own, env, k, E, q, n1, n2, n3, n4⟩ => by
    refine ⟨Pn, gh, G, own, env, _, E, q, fun ds q1 J H1 gs k1 s1 hgs F => ?_⟩
    have E1 := (E.keep k1 s1).ghosts (gh' := gs ++ gh) fun v d hm => by
      rcases List.mem_append.mp hm with hm | hm
      · exact hgs v d hm
      · exact (E.keep k1 s1).ghs v d hm
    refine ⟨fun i m σ H => m = ds.length - i ∧ i ≤ ds.length ∧ ∃ own env, ER X.K x O Pn (gs ++ gh) G own σ H env ∧ fLoop g gb k (ds.drop i) env, ⟨_, rfl, Nat.zero_le _, own, env, E1, by simpa using q1⟩, ?_⟩
    rintro i m σ2 H2 ⟨rfl, hle, own2, env2, E2, q2⟩
    have hgs2 : ∀ v d, (v, d) ∈ gs → RpB X.K x (Fo G own2) H2 v d := fun v d hm => .inl (E2.ghs v d (List.mem_append_left _ hm))
    by_cases hlt : i < ds.length
    · rw [drop_cons hlt] at q2
      refine .inr ⟨F.goes _ i H2 hlt hgs2, fun σ' H' => ∃ own env, ER X.K x O Pn (gs ++ gh) G own σ' H' env ∧ fLoop g gb k (ds.drop (i + 1)) env, fun σ' H' ⟨o', e', E', q'⟩ => ⟨ds.length - (i + 1), by omega, rfl, hlt, o', e', E', q'⟩, fun v H3 hy => ?_⟩
      obtain ⟨sm, d, hd, r⟩ := F.yields _ i H2 v H3 hlt hgs2 hy
      have ed : ds[i] = d := by
        rw [List.getElem?_eq_getElem hlt] at hd
        exact Option.some.inj hd
      rw [ed] at q2
      have E3 := E2.keep (Keep.of_same sm) (x.same E2.si sm)
      refine ⟨Pn, gs ++ gh, G, own2, env2, d, _, E3, r, q2, fun env3 q3 σ3 E3' _ _ => ?_⟩
      refine ⟨Pn, gs ++ gh, G, own2, env3, _, E3', q3, fun env' h' σ' H' own' E' => ⟨own', env', E', h'⟩, fun d h' v H' si hp r => n2 d h' v H' si hp r, fun env' h' σ' H' own' E' => n1 env' h' σ' H' own' (E'.ghosts fun v d hm => E'.ghs v d (List.mem_append_right _ hm)), fun env' h' σ' H' own' E' => ⟨own', env', E', h'⟩⟩
    · have e : i = ds.length := by omega
      subst e
      rw [List.drop_length] at q2
      exact .inl ⟨F.stops _ H2 hgs2, n1 _ q2 σ2 H2 own2 (E2.ghosts fun v d hm => E2.ghs v d (List.mem_append_right _ hm))⟩

/-! ### while -/
def fWhile (ft : FT_) (gb : FS_) : FS_ := fun k env => ∃ W : Nat → Ev → Prop, (∃ m, W m env) ∧ ∀ m env, W m env → ft env fun c => match c with
  | true => gb { nx := fun e => ∃ m', m' < m ∧ W m' e, rt := k.rt, bk := k.nx, ct := fun e => ∃ m', m' < m ∧ W m' e } env
  | false => k.nx env
theorem fs_while {ft : FT_} {gb : FS_} (hp : PassesOwn (model X.prog X.w) X.A X.env X.xe) (hc : FT x O X e ft) (hb : FSs x O X body gb) : FS x O X (.While e body [] pos) (fWhile ft gb) :=
  (ps_while hp hc hb).imp fun D σ H ⟨Pn, gh, G, own, env, k, E, ⟨W, ⟨m0, w0⟩, turn⟩, n1, n2, n3, n4⟩ => by
    refine ⟨fun m σ H => ∃ own env, ER X.K x O Pn gh G own σ H env ∧ W m env, ⟨m0, own, env, E, w0⟩, ?_⟩
    rintro m σ2 H2 ⟨own2, env2, E2, w2⟩
    refine ⟨Pn, gh, G, own2, env2, _, E2, turn m env2 w2, fun c q H3 k3 s3 => ?_⟩
    have E3 := E2.keep k3 s3
    cases c with
    | true =>
      refine iteT ⟨fun σ' H' => ∃ m', m' < m ∧ ∃ own env, ER X.K x O Pn gh G own σ' H' env ∧ W m' env, fun σ' H' h => h, ?_⟩
      exact ⟨Pn, gh, G, own2, env2, _, E3, q, fun env' ⟨m', h1, h2⟩ σ' H' own' E' => ⟨m', h1, own', env', E', h2⟩, n2, n1, fun env' ⟨m', h1, h2⟩ σ' H' own' E' => ⟨m', h1, own', env', E', h2⟩⟩
    | false => exact iteF (n1 _ q σ2 H3 own2 E3)

/-! ### blocks, small statements -/
def gNil : FS_ := fun k env => k.nx env
def gSeq (g1 g2 : FS_) : FS_ := fun k env => g1 { k with nx := fun e => g2 k e } env
theorem fss_nil : FSs x O X [] gNil := pss_nil.imp fun D σ H ⟨Pn, gh, G, own, env, k, E, q, n1, n2, n3, n4⟩ => n1 _ q _ _ _ E
theorem fss_one {g : FS_} (h : FS x O X st g) : FSs x O X [st] g := pss_one h
theorem fss_cons {g1 g2 : FS_} {rest : List Stmt} (h1 : FS x O X st g1) (h2 : FSs x O X rest g2) : FSs x O X (st :: rest) (gSeq g1 g2) := (pss_cons h1 h2).imp fun D σ H ⟨Pn, gh, G, own, env, k, E, q, n1, n2, n3, n4⟩ =>
  ⟨Pn, gh, G, own, env, _, E, q, fun env' q' σ' H' own' E' => ⟨Pn, gh, G, own', env', k, E', q', n1, n2, n3, n4⟩, n2, n3, n4⟩
def gExpr (fe : FE_) : FS_ := fun k env => fe env fun _ => k.nx env
theorem fs_expr {fe : FE_} (he : FB x O X e fe) (hs : swapsWith e none pos.line X.env = pure false := by rfl) : FS x O X (.Expr e pos) (gExpr fe) := (ps_expr he hs).imp fun D σ H ⟨Pn, gh, G, own, env, k, E, q, n1, n2, n3, n4⟩ =>
  ⟨Pn, gh, G, own, env, _, E, q, fun d p v H' kk si r => n1 _ p _ _ _ (E.keep kk si)⟩
def gRet (fe : FE_) : FS_ := fun k env => fe env fun d => k.rt d
theorem fs_ret {fe : FE_} (he : FE x O X e fe) : FS x O X (.Return (some e) pos) (gRet fe) := (ps_ret he).imp fun D σ H ⟨Pn, gh, G, own, env, k, E, q, n1, n2, n3, n4⟩ =>
  ⟨Pn, gh, G, own, env, _, E, q, fun d p v H' kk si r => n2 d p v H' si (E.keep kk si).pin (r.sub fun a z => .inl (.inl z))⟩
/-- a list of one's own given back -/
theorem fs_retOwn {i : Nat} {nm : Str} {p2 : Pos} (hO : O i = true := by rfl) (hN : X.N[i]? = some nm := by rfl) (hv : Vis X.env.scope nm := by first | exact Or.inl rfl | exact Or.inr (Or.inl rfl) | exact Or.inr (Or.inr rfl)) (hd : (nm == ("__debug__" : Str)) = false := by decide)
    (hcd : (nm == ("__classdict__" : Str)) = false := by decide) : FS x O X (.Return (some (.Name nm p2)) pos) (gRet (fVar i)) := (ps_ret (pe_var hN hv hd hcd)).imp fun D σ H ⟨Pn, gh, G, own, env, k, E, q, n1, n2, n3, n4⟩ => by
  obtain ⟨d, e, p⟩ := fVar_get q
  obtain ⟨v, h1, h2⟩ := E.slot i d e
  rw [if_pos hO] at h2
  rcases h2 with ⟨a, xs, ds, ho, rfl, rfl, hp, r⟩ | ⟨r, _⟩
  · exact ⟨_, h1, n2 _ p _ H E.si E.pin (.lst hp (E.ownL i a ho).2.1 (r.sub fun a z => .inl (.inl z)))⟩
  · exact ⟨_, h1, n2 _ p _ H E.si E.pin (r.sub fun a z => .inl (.inl z))⟩
def gRetN : FS_ := fun k _ => k.rt .none
theorem fs_retN : FS x O X (.Return none pos) gRetN := ps_retN.imp fun D σ H ⟨Pn, gh, G, own, env, k, E, q, n1, n2, n3, n4⟩ => n2 _ q _ H E.si E.pin .non
def gIf (ft : FT_) (g1 g2 : FS_) : FS_ := fun k env => ft env fun c => match c with
  | true => g1 k env
  | false => g2 k env
theorem fs_if {ft : FT_} {g1 g2 : FS_} {b1 b2 : List Stmt} (hc : FT x O X e ft) (h1 : FSs x O X b1 g1) (h2 : FSs x O X b2 g2) : FS x O X (.If e b1 b2 pos) (gIf ft g1 g2) := (ps_if hc h1 h2).imp fun D σ H ⟨Pn, gh, G, own, env, k, E, q, n1, n2, n3, n4⟩ => by
  refine ⟨Pn, gh, G, own, env, _, E, q, fun c q1 H1 k1 s1 => ?_⟩
  have E1 := E.keep k1 s1
  cases c with
  | true => exact iteT ⟨Pn, gh, G, own, env, k, E1, q1, n1, n2, n3, n4⟩
  | false => exact iteF ⟨Pn, gh, G, own, env, k, E1, q1, n1, n2, n3, n4⟩
theorem fs_pass : FS x O X (.Pass pos) gNil := ps_pass.imp fun D σ H ⟨Pn, gh, G, own, env, k, E, q, n1, n2, n3, n4⟩ => n1 _ q _ _ _ E
/-- never reached -/
def gNever : FS_ := fun _ _ => False
theorem fs_never : FS x O X st gNever := ps_never.imp fun D σ H ⟨Pn, gh, G, own, env, k, E, q, n1, n2, n3, n4⟩ => q.elim
theorem fss_never {sts : List Stmt} : FSs x O X sts gNever := pss_never.imp fun D σ H ⟨Pn, gh, G, own, env, k, E, q, n1, n2, n3, n4⟩ => q.elim
variable {i j : Nat} {nm : Str} {p2 : Pos}
def gSet (i : Nat) (fe : FE_) : FS_ := fun k env => fe env fun d => k.nx (env.set i (some d))
theorem fs_set {fe : FE_} (hN : X.N.Nodup) (he : FE x O X e fe) (hO : O i = false := by rfl) (hi : X.N[i]? = some nm := by rfl) (hx : Loc X.env.scope nm := by first | exact .inl rfl | exact .inr rfl) (hs : swapsWith e (some (.Name nm p2)) pos.line X.env = pure false := by rfl)
    (hf : X.fn nm = true ∨ X.env.scope.names.lookup nm = some .local := by first | exact .inl rfl | exact .inr rfl | assumption) : FS x O X (.Assign [.Name nm p2] e pos) (gSet i fe) :=
  (ps_set hN hi hx he hs hf).imp fun D σ H ⟨Pn, gh, G, own, env, k, E, q, n1, n2, n3, n4⟩ => ⟨Pn, gh, G, own, env, _, E, q, fun d p v H' kk si r => n1 _ p _ _ _ ((E.keep kk si).put hO r)⟩
def gSetT (i : Nat) (fe : FE_) : FS_ := fun k env => fe env fun d => (∀ ds, d ≠ .list ds) ∧ k.nx (env.set i (some d))
theorem fs_setT {fe : FE_} (hN : X.N.Nodup) (he : FE x O X e fe) (hO : O i = true := by rfl) (hi : X.N[i]? = some nm := by rfl) (hx : Loc X.env.scope nm := by first | exact .inl rfl | exact .inr rfl) (hs : swapsWith e (some (.Name nm p2)) pos.line X.env = pure false := by rfl)
    (hf : X.fn nm = true ∨ X.env.scope.names.lookup nm = some .local := by first | exact .inl rfl | exact .inr rfl | assumption) : FS x O X (.Assign [.Name nm p2] e pos) (gSetT i fe) :=
  (ps_set hN hi hx he hs hf).imp fun D σ H ⟨Pn, gh, G, own, env, k, E, q, n1, n2, n3, n4⟩ => ⟨Pn, gh, G, own, env, _, E, q, fun d p v H' kk si r => n1 _ p.2 _ _ _ ((E.keep kk si).putT hO r p.1)⟩
def gSetN (i : Nat) (f : FA_) : FS_ := fun k env => f env fun ds => k.nx (env.set i (some (.list ds)))
theorem fs_own {f : FA_} (hN : X.N.Nodup) (he : FN x O X e f) (hO : O i = true := by rfl) (hi : X.N[i]? = some nm := by rfl) (hx : Loc X.env.scope nm := by first | exact .inl rfl | exact .inr rfl) (hs : swapsWith e (some (.Name nm p2)) pos.line X.env = pure false := by rfl)
    (hf : X.fn nm = true ∨ X.env.scope.names.lookup nm = some .local := by first | exact .inl rfl | exact .inr rfl | assumption) : FS x O X (.Assign [.Name nm p2] e pos) (gSetN i f) :=
  (ps_set hN hi hx he hs hf).imp fun D σ H ⟨Pn, gh, G, own, env, k, E, q, n1, n2, n3, n4⟩ => ⟨Pn, gh, G, own, env, _, E, q, fun ds p a xs H' kk si hp0 hp r => n1 _ p _ _ _ (E.putOwn kk si hO hp0 hp r)⟩
def gAug (i : Nat) (s : S2_) (fe : FE_) : FS_ := fun k env => match env[i]? with
  | some (some d) => fe env fun e => s d e fun r => k.nx (env.set i (some r))
  | _ => False
/-- x += e by an in-place rule that makes a new value (ints) -/
theorem fs_aug {fe : FE_} {op : Operator} {ti : R2} {s : S2_} (hN : X.N.Nodup) (ho : PIp X op ti) (hs : Op2 X x ti s) (he : FB x O X e fe) (hO : O i = false := by rfl) (hi : X.N[i]? = some nm := by rfl) (hx : Loc X.env.scope nm := by first | exact .inl rfl | exact .inr rfl)
    (hf : X.fn nm = true ∨ X.env.scope.names.lookup nm = some .local := by first | exact .inl rfl | exact .inr rfl | assumption) : FS x O X (.AugAssign (.Name nm p2) op e pos) (gAug i s fe) :=
  (ps_aug hN hi hx he ho hf).imp fun D σ H ⟨Pn, gh, G, own, env, k, E, q, n1, n2, n3, n4⟩ => by
    unfold gAug at q
    split at q
    · rename_i d ed
      obtain ⟨v, h1, h2⟩ := E.slot i d ed
      rw [if_neg (by rw [hO]; exact Bool.false_ne_true)] at h2
      refine ⟨v, h1, Pn, gh, G, own, env, _, E, q, fun e' q1 w H1 k1 s1 r1 => ?_⟩
      have E1 := E.keep k1 s1
      exact hs (Fo G own) H1 v w d e' _ _ s1 (fun a z => .inl (E.gS a z)) (fun a z => E1.foH z) (.inl (E.rp k1 h2)) r1 q1 fun d' p u H' sm rr => n1 _ p _ _ _ ((E1.keep (Keep.of_same sm) (x.same s1 sm)).put hO rr)
    · exact q.elim
end
end FL

/-! F6: comprehensions, lists of one's own changed, two targets at once, defs and their calls. -/
namespace FL
open PySem PySem.Spec PyProof.Rows L2

def wipeE (env : Ev) : List Nat → Ev
  | [] => env
  | v :: vs => (wipeE env vs).set v none
theorem wipeE_length (env : Ev) : ∀ vs : List Nat, (wipeE env vs).length = env.length
  | [] => rfl
  | v :: vs => by unfold wipeE; rw [List.length_set, wipeE_length env vs]
theorem wipeE_some {env : Ev} {i : Nat} {x : PyData} : ∀ {vs : List Nat}, (wipeE env vs)[i]? = some (some x) → env[i]? = some (some x) ∧ i ∉ vs
  | [], h => ⟨h, by simp⟩
  | v :: vs, h => by
    unfold wipeE at h
    by_cases hi : v = i
    · subst hi
      by_cases hv : v < (wipeE env vs).length
      · rw [List.getElem?_set_self hv] at h; cases h
      · rw [List.getElem?_eq_none (by simpa using hv)] at h; cases h
    · rw [List.getElem?_set_ne hi] at h
      obtain ⟨h1, h2⟩ := wipeE_some h
      exact ⟨h1, by simp only [List.mem_cons, not_or]; exact ⟨fun e => hi e.symm, h2⟩⟩
theorem wipe_in {σ : L2.St} {i : Nat} : ∀ {vs : List Nat}, i ∈ vs → i < σ.length → (wipe σ vs)[i]? = some none
  | [], h, _ => by simp at h
  | v :: vs, h, hl => by
    unfold wipe
    by_cases hi : v = i
    · subst hi
      rw [List.getElem?_set_self (by rw [wipe_length]; exact hl)]
    · rw [List.getElem?_set_ne hi]
      exact wipe_in (by simpa [Ne.symm hi] using h) hl
theorem wipe_same {σ σ' : L2.St} {vs us : List Nat} (hl : σ'.length = σ.length) (h : ∀ i, i ∉ us → σ'[i]? = σ[i]?) (hu : ∀ i, i ∈ us → i ∈ vs) : wipe σ' vs = wipe σ vs := by
  apply List.ext_getElem?
  intro i
  by_cases hi : i ∈ vs
  · by_cases hlt : i < σ.length
    · rw [wipe_in hi hlt, wipe_in hi (by rw [hl]; exact hlt)]
    · rw [List.getElem?_eq_none (by rw [wipe_length, hl]; omega), List.getElem?_eq_none (by rw [wipe_length]; omega)]
  · rw [wipe_out hi, wipe_out hi]
    exact h i fun z => hi (hu i z)
theorem wipe_wipe {σ : L2.St} {vs : List Nat} : wipe (wipe σ vs) vs = wipe σ vs := by
  apply List.ext_getElem?
  intro i
  by_cases hi : i ∈ vs
  · by_cases hlt : i < σ.length
    · rw [wipe_in hi hlt, wipe_in hi (by rw [wipe_length]; exact hlt)]
    · rw [List.getElem?_eq_none (by rw [wipe_length, wipe_length]; omega), List.getElem?_eq_none (by rw [wipe_length]; omega)]
  · rw [wipe_out hi]
section
variable {K : PySem.W.Frag} {x : Sx} {O : Nat → Bool} {Pn : Addr → HO → Prop} {gh : List (V × PyData)} {G : Addr → Prop} {own : Nat → Option Addr} {σ : L2.St} {H : Hp} {env : Ev}
theorem ER.wiped (E : ER K x O Pn gh G own σ H env) (vs : List Nat) : ER K x O Pn gh G own (wipe σ vs) H (wipeE env vs) :=
  E.weak (by rw [wipe_length, wipeE_length, E.len]) fun i d h => by
    obtain ⟨h1, h2⟩ := wipeE_some h
    exact ⟨h1, fun v hv => by rw [wipe_out h2]; exact hv⟩
/-- one more barred address, new -/
theorem ER.bar {D : Addr} {o : HO} (E : ER K x O Pn gh G own σ H env) (hD : H D = none) : ER K x O Pn gh (fun a => G a ∨ a = D) own σ (upd H D o) env := by
  have sub : ∀ a, Fo (fun a => G a ∨ a = D) own a → Fo G own a ∨ H a = none := fun a h => by
    rcases h with (h | h) | h
    · exact .inl (.inl h)
    · exact .inr (by rw [h]; exact hD)
    · exact .inl (.inr h)
  have up : ∀ {v d}, Rp K x.src (Fo G own) H v d → Rp K x.src (Fo (fun a => G a ∨ a = D) own) (upd H D o) v d := fun r => r.keep (fun a o e _ => same_upd hD a o e) (fun a _ ys e => same_upd hD a _ e) sub
  have upA : ∀ {v d}, RpAll K x.src (Fo G own) H v d → RpAll K x.src (Fo (fun a => G a ∨ a = D) own) (upd H D o) v d := fun r => r.keep (fun a o e _ => same_upd hD a o e) (fun a _ ys e => same_upd hD a _ e) sub
  refine ⟨x.updN E.si hD, fun a u h => same_upd hD a u (E.pin a u h), E.pinS, fun a h => .inl (E.gS a h), fun a h => ?_, E.len, fun i p h => ?_, E.inj, fun v d hm => up (E.ghs v d hm), fun i d h => ?_⟩
  · rcases h with h | h
    · obtain ⟨u, e⟩ := E.gH a h
      exact ⟨u, same_upd hD a u e⟩
    · exact ⟨o, by rw [h, upd_same]⟩
  · obtain ⟨h1, h2, h3, xs, e⟩ := E.ownL i p h
    refine ⟨h1, fun z => ?_, h3, xs, same_upd hD p _ e⟩
    rcases z with z | z
    · exact h2 z
    · rw [z, hD] at e; cases e
  · obtain ⟨v, h1, h2⟩ := E.slot i d h
    refine ⟨v, h1, ?_⟩
    split
    · rename_i hO
      rw [if_pos hO] at h2
      exact h2.mono (fun p xs e hp => same_upd hD p _ hp) fun xs ds r => upA r
    · rename_i hO
      rw [if_neg hO] at h2
      exact up h2
/-- a barred list changed -/
theorem ER.updG {D : Addr} {xs ys : List V} (E : ER K x O Pn gh G own σ H env) (hG : G D) (nS : ¬ x.S D) (nP : ∀ o, ¬ Pn D o) (hL : H D = some (.lst xs)) : ER K x O Pn gh G own σ (upd H D (.lst ys)) env := by
  have no : ∀ i, own i ≠ some D := fun i z => (E.ownL i D z).2.1 hG
  have up : ∀ {v d}, Rp K x.src (Fo G own) H v d → Rp K x.src (Fo G own) (upd H D (.lst ys)) v d := fun r =>
    r.keep (fun a o e n => by rw [upd_ne (fun z => n (by rw [z]; exact .inl hG))]; exact e) (frz_upd hL) fun a z => .inl z
  have upA : ∀ {v d}, RpAll K x.src (Fo G own) H v d → RpAll K x.src (Fo G own) (upd H D (.lst ys)) v d := fun r =>
    r.keep (fun a o e n => by rw [upd_ne (fun z => n (by rw [z]; exact .inl hG))]; exact e) (frz_upd hL) fun a z => .inl z
  refine ⟨x.keep H _ E.si fun a ha => upd_ne fun z => nS (by rw [← z]; exact ha), fun a o hn => ?_, E.pinS, E.gS, fun a hg => ?_, E.len, fun i p h => ?_, E.inj, fun v d hm => up (E.ghs v d hm), fun i d h => ?_⟩
  · rw [upd_ne (fun z => nP o (by rw [← z]; exact hn))]
    exact E.pin a o hn
  · by_cases z : a = D
    · exact ⟨_, by rw [z, upd_same]⟩
    · rw [upd_ne z]; exact E.gH a hg
  · obtain ⟨h1, h2, h3, zs, e⟩ := E.ownL i p h
    exact ⟨h1, h2, h3, zs, by rw [upd_ne (fun z => no i (by rw [h, z]))]; exact e⟩
  · obtain ⟨v, h1, h2⟩ := E.slot i d h
    refine ⟨v, h1, ?_⟩
    split
    · rename_i hO
      rw [if_pos hO] at h2
      exact h2.mono (fun p zs e hp => by rw [upd_ne (fun z => no i (by rw [e, z]))]; exact hp) fun xs ds r => upA r
    · rename_i hO
      rw [if_neg hO] at h2
      exact up h2
end

/-! ### comprehensions -/
def fCompL (g : FG_) (ft : FT_) (fe : FE_) (env : Ev) : List PyData → (List PyData → Prop) → Prop
  | [], P => P []
  | d :: ds, P => g d env fun env1 => ft env1 fun b => match b with
    | true => fe env1 fun y => fCompL g ft fe env ds fun ys => P (y :: ys)
    | false => fCompL g ft fe env ds P
def fComp (vs : List Nat) (fi : FA_) (g : FG_) (ft : FT_) (fe : FE_) : FA_ := fun env P => fi env fun ds => ds.length ≤ 16777216 ∧ fCompL g ft fe (wipeE env vs) ds P
def fYes : FT_ := fun _ P => P true
section
variable {X : Cx} {x : Sx} {O : Nat → Bool} {pos : Pos} {tg iter elt e : Expr} {ifs : List Expr} {scope : Scope} {own : List (Str × Nat)} {vs : List Nat} {wk : Bool} {fi : FA_} {g : FG_} {ft : FT_} {fe : FE_}
abbrev FTs (x : Sx) (O : Nat → Bool) (X : Cx) (ifs : List Expr) (f : FT_) : Prop := PTs X ifs (tFT X.K x O f)
theorem fts_nil : FTs x O X [] fYes := ⟨fun pins s σ H Q I ⟨Pn, gh, G, own, env, P, E, q, k⟩ => pts_nil.run pins s σ H Q I (k _ q H (Keep.refl _ _) E.si)⟩
theorem fts_one {c : Expr} (h : FT x O X c ft) : FTs x O X [c] ft := pts_one h
theorem comp_go (hv : ∀ i, i ∈ vs → i ∈ own.map (·.2)) {K : PySem.W.Frag} {σ : L2.St} {H : Hp} {Q : VK} (h : tFN K x O (fComp (own.map (·.2)) fi g ft fe) σ H Q) :
    tLc (tFI K x O false wk fi) (tGW K x O wk vs g) (tFT K x O ft) (tFE K x O fe) (own.map (·.2)) σ H Q := by
  obtain ⟨Pn, gh, G, own', env, P, E, q, k⟩ := h
  refine ⟨Pn, gh, G, own', env, _, E, q, fun ds q1 J H1 gs k1 s1 hgs F D hD => ?_⟩
  obtain ⟨hlen, q1⟩ := q1
  have E1 := E.keep k1 s1
  have hD0 : H D = none := Keep.none E.si s1 k1 hD
  have EW := (E1.bar (o := .lst []) hD).wiped (own.map (·.2))
  have nS : ¬ x.S D := fun z => by
    obtain ⟨o, e, _⟩ := x.there H1 D s1 z
    rw [hD] at e; cases e
  have nP : ∀ o, ¬ Pn D o := fun o z => by
    have e := E1.pin D o z
    rw [hD] at e; cases e
  have gD : (fun a => G a ∨ a = D) D := Or.inr rfl
  have hgs1 : ∀ v d, (v, d) ∈ gs → RpB K x (Fo (fun a => G a ∨ a = D) own') (upd H1 D (.lst [])) v d := fun v d hm => by
    have sub : ∀ a, Fo (fun a => G a ∨ a = D) own' a → Fo G own' a ∨ H1 a = none := fun a h => by
      rcases h with (h | h) | h
      · exact .inl (.inl h)
      · exact .inr (by rw [h]; exact hD)
      · exact .inl (.inr h)
    rcases hgs v d hm with r | ⟨p, xs, es, e1, e2, hp, n, r⟩
    · exact .inl (r.keep (fun a o e _ => same_upd hD a o e) (fun a _ ys e => same_upd hD a _ e) sub)
    · exact .inr ⟨p, xs, es, e1, e2, same_upd hD p _ hp, n, r.keep (fun a o e _ => same_upd hD a o e) (fun a _ ys e => same_upd hD a _ e) sub⟩
  -- the ghosts behind a change of D
  have gsD : ∀ {Ha : Hp} {accs acc : List V} {v : V} {d : PyData}, Ha D = some (.lst accs) → RpB K x (Fo (fun a => G a ∨ a = D) own') Ha v d → (∀ (p : Addr) xs, v = .ref p → Ha p = some (.lst xs) → p ≠ D) → RpB K x (Fo (fun a => G a ∨ a = D) own') (upd Ha D (.lst acc)) v d := fun {Ha accs acc v d} hL h hne => by
    have kp : ∀ (a : Addr) o, Ha a = some o → ¬ Fo (fun a => G a ∨ a = D) own' a → upd Ha D (.lst acc) a = some o := fun a o e n => by
      rw [upd_ne (fun z => n (by rw [z]; exact .inl gD))]; exact e
    rcases h with r | ⟨p, xs, es, e1, e2, hp, n, r⟩
    · exact .inl (r.keep kp (frz_upd hL) fun a z => .inl z)
    · exact .inr ⟨p, xs, es, e1, e2, by rw [upd_ne (hne p xs e1 hp)]; exact hp, n, r.keep kp (frz_upd hL) fun a z => .inl z⟩
  -- no ghost is D itself
  have gne : ∀ v d, (v, d) ∈ gs → v ≠ .ref D := fun v d hm z => by
    rcases hgs v d hm with r | ⟨p, xs, es, e1, e2, hp, n, r⟩
    · subst z
      cases r with
      | lst h _ _ => rw [hD] at h; cases h
      | tup h _ _ => rw [hD] at h; cases h
      | src h => exact nS (x.srcS _ h)
    · rw [e1] at z
      cases z
      rw [hD] at hp; cases hp
  refine ⟨fun i m Hc => m = ds.length - i ∧ i ≤ ds.length ∧ Keep x.S H Hc ∧ ER K x O Pn gh (fun a => G a ∨ a = D) own' (wipe σ (own.map (·.2))) Hc (wipeE env (own.map (·.2))) ∧ (∀ v d, (v, d) ∈ gs → RpB K x (Fo (fun a => G a ∨ a = D) own') Hc v d) ∧
    ∃ acc ads, Hc D = some (.lst acc) ∧ acc.length ≤ i ∧ RpAll K x.src (Fo (fun a => G a ∨ a = D) own') Hc acc ads ∧ fCompL g ft fe (wipeE env (own.map (·.2))) (ds.drop i) (fun ys => P (ads ++ ys)),
    ⟨_, rfl, Nat.zero_le _, k1.trans (Keep.upd hD), EW, hgs1, [], [], upd_same, Nat.le_refl _, .nil, q1⟩, ?_⟩
  rintro i m Hc ⟨rfl, hle, kc, Ec, gc, acc, ads, hacc, hal, racc, qc⟩
  by_cases hlt : i < ds.length
  · rw [drop_cons hlt] at qc
    refine .inr ⟨F.goes _ i Hc hlt gc, _, fun H' h => ⟨_, by omega, rfl, hlt, h⟩, fun v H2 hy => ?_⟩
    obtain ⟨sm, d, hd, r⟩ := F.yields _ i Hc v H2 hlt gc hy
    have ed : ds[i] = d := by
      rw [List.getElem?_eq_getElem hlt] at hd
      exact Option.some.inj hd
    rw [ed] at qc
    have E2 := Ec.keep (Keep.of_same sm) (x.same Ec.si sm)
    have r2 : RpAll K x.src (Fo (fun a => G a ∨ a = D) own') H2 acc ads := Ec.rpAll (Keep.of_same sm) racc
    have g2 : ∀ v d, (v, d) ∈ gs → RpB K x (Fo (fun a => G a ∨ a = D) own') H2 v d := fun v d hm => Ec.rpB (Keep.of_same sm) (gc v d hm)
    have a2 : H2 D = some (.lst acc) := sm D _ hacc
    have k2 : Keep x.S H H2 := kc.trans (Keep.of_same sm)
    refine ⟨Pn, gh, _, own', _, d, _, E2, r, qc, fun env3 q3 σ3 E3 hσ hlσ => ⟨?_, ?_⟩⟩
    · have hw := wipe_same (σ := wipe σ (own.map (·.2))) (σ' := σ3) (vs := own.map (·.2)) hlσ hσ hv
      rw [hw, wipe_wipe]
    · refine ⟨Pn, gh, _, own', env3, _, E3, q3, fun b q4 H4 k4 s4 => ?_⟩
      have E4 := E3.keep k4 s4
      have E4w := E2.keep k4 s4
      have a4 : H4 D = some (.lst acc) := k4 D _ a2 nS
      have r4 := E2.rpAll k4 r2
      have g4 : ∀ v d, (v, d) ∈ gs → RpB K x (Fo (fun a => G a ∨ a = D) own') H4 v d := fun v d hm => E2.rpB k4 (g2 v d hm)
      cases b with
      | true =>
        refine iteT ⟨Pn, gh, _, own', env3, _, E4, q4, fun y q5 u H5 k5 s5 r5 => ⟨acc, k5 D _ a4 nS, ?_, ?_⟩⟩
        · rw [sizeLine_eq]; omega
        · have E5 := E4w.keep k5 s5
          have a5 : H5 D = some (.lst acc) := k5 D _ a4 nS
          have r5' := E4w.rpAll k5 r4
          have rn : RpAll K x.src (Fo (fun a => G a ∨ a = D) own') H5 (acc ++ [u]) (ads ++ [y]) := r5'.append (.cons r5 .nil)
          have kp : ∀ (a : Addr) o, H5 a = some o → ¬ Fo (fun a => G a ∨ a = D) own' a → upd H5 D (.lst (acc ++ [u])) a = some o := fun a o e n => by
            rw [upd_ne (fun z => n (by rw [z]; exact .inl gD))]; exact e
          refine ⟨fun a o e n => ?_, E5.updG gD nS nP a5, fun v d hm => gsD a5 (E4w.rpB k5 (g4 v d hm)) (fun p xs e _ z => gne v d hm (by rw [e, z])), _, ads ++ [y], upd_same, by rw [List.length_append]; simp; omega, rn.keep kp (frz_upd a5) fun a z => .inl z, ?_⟩
          · rw [upd_ne (fun z => by rw [z, hD0] at e; cases e)]
            exact ((k2.trans k4).trans k5) a o e n
          · simpa [List.append_assoc] using q5
      | false =>
        exact iteF ⟨k2.trans k4, E4w, g4, acc, ads, a4, by omega, r4, q4⟩
  · have e : i = ds.length := by omega
    subst e
    rw [List.drop_length] at qc
    refine .inl ⟨F.stops _ Hc gc, k ads (by simpa [fCompL] using qc) D acc Hc kc Ec.si hD0 hacc (racc.sub fun a z => .inl ?_)⟩
    rcases z with (z | z) | z
    · exact .inl (.inl z)
    · exact .inr z
    · exact .inl (.inr z)
theorem fn_comp (hc : X.calm = true) (hN : X.N.Nodup) (hi : FI x O false wk X tg iter fi) (hv : ∀ i, i ∈ vs → i ∈ own.map (·.2)) (ok : BlkOk X.N X.env.scope scope own)
    (hg : ∀ (s : Shared) (H : Hp) (C : Addr) (cl : List (Str × Addr)) (fp : List Addr), GW x O wk vs (X.blk s H scope (compEnvC scope cl C X.env) fp) tg g)
    (ht : ∀ (s : Shared) (H : Hp) (C : Addr) (cl : List (Str × Addr)) (fp : List Addr), FTs x O (X.blk s H scope (compEnvC scope cl C X.env) fp) ifs ft)
    (he : ∀ (s : Shared) (H : Hp) (C : Addr) (cl : List (Str × Addr)) (fp : List Addr), FE x O (X.blk s H scope (compEnvC scope cl C X.env) fp) elt fe) (hs : ∀ x, foldedSetIterable iter X.env x = pure x := by intro _; rfl) :
    FN x O X (.ListComp elt [⟨tg, iter, ifs, 0⟩] scope pos) (fComp (own.map (·.2)) fi g ft fe) :=
  (pe_lc hc hN hi ok hg ht he hs).imp fun _ _ _ h => comp_go hv h
variable {i : Nat} {nm : Str} {p2 spos : Pos}
/-- y = [..], y a name that owns nothing -/
theorem fs_setLc (hc : X.calm = true) (hN : X.N.Nodup) (hsw : swapsWith (.ListComp elt [⟨tg, iter, ifs, 0⟩] scope pos) (some (.Name nm p2)) spos.line X.env = pure true) (hi : FI x O false wk X tg iter fi) (hv : ∀ i, i ∈ vs → i ∈ own.map (·.2)) (ok : BlkOk X.N X.env.scope scope own)
    (hg : ∀ (s : Shared) (H : Hp) (C : Addr) (cl : List (Str × Addr)) (fp : List Addr), GW x O wk vs (X.blk s H scope (compEnvC scope cl C X.env) fp) tg g)
    (ht : ∀ (s : Shared) (H : Hp) (C : Addr) (cl : List (Str × Addr)) (fp : List Addr), FTs x O (X.blk s H scope (compEnvC scope cl C X.env) fp) ifs ft)
    (he : ∀ (s : Shared) (H : Hp) (C : Addr) (cl : List (Str × Addr)) (fp : List Addr), FE x O (X.blk s H scope (compEnvC scope cl C X.env) fp) elt fe)
    (hO : O i = false := by rfl) (hy : X.N[i]? = some nm := by rfl) (hyl : X.env.scope.names.lookup nm = some .local := by rfl) (hs : ∀ x, foldedSetIterable iter X.env x = pure x := by intro _; rfl) :
    FS x O X (.Assign [.Name nm p2] (.ListComp elt [⟨tg, iter, ifs, 0⟩] scope pos) spos) (gSetN i (fComp (own.map (·.2)) fi g ft fe)) :=
  (ps_setLc hc hN hy hyl hsw hi ok hg ht he hs).imp fun D σ H ⟨Pn, gh, G, own', env, k, E, q, n1, n2, n3, n4⟩ =>
    comp_go hv ⟨Pn, gh, G, own', env, _, E, q, fun ds p a xs H' kk si hp0 hp r => n1 _ p _ _ _ ((E.keep kk si).put hO (.lst hp (fun z => by
      obtain ⟨o, e⟩ := E.foH z
      rw [hp0] at e; cases e) (r.sub fun a z => .inl (.inl z))))⟩
/-- .. that owns its list -/
theorem fs_ownLc (hc : X.calm = true) (hN : X.N.Nodup) (hsw : swapsWith (.ListComp elt [⟨tg, iter, ifs, 0⟩] scope pos) (some (.Name nm p2)) spos.line X.env = pure true) (hi : FI x O false wk X tg iter fi) (hv : ∀ i, i ∈ vs → i ∈ own.map (·.2)) (ok : BlkOk X.N X.env.scope scope own)
    (hg : ∀ (s : Shared) (H : Hp) (C : Addr) (cl : List (Str × Addr)) (fp : List Addr), GW x O wk vs (X.blk s H scope (compEnvC scope cl C X.env) fp) tg g)
    (ht : ∀ (s : Shared) (H : Hp) (C : Addr) (cl : List (Str × Addr)) (fp : List Addr), FTs x O (X.blk s H scope (compEnvC scope cl C X.env) fp) ifs ft)
    (he : ∀ (s : Shared) (H : Hp) (C : Addr) (cl : List (Str × Addr)) (fp : List Addr), FE x O (X.blk s H scope (compEnvC scope cl C X.env) fp) elt fe)
    (hO : O i = true := by rfl) (hy : X.N[i]? = some nm := by rfl) (hyl : X.env.scope.names.lookup nm = some .local := by rfl) (hs : ∀ x, foldedSetIterable iter X.env x = pure x := by intro _; rfl) :
    FS x O X (.Assign [.Name nm p2] (.ListComp elt [⟨tg, iter, ifs, 0⟩] scope pos) spos) (gSetN i (fComp (own.map (·.2)) fi g ft fe)) :=
  (ps_setLc hc hN hy hyl hsw hi ok hg ht he hs).imp fun D σ H ⟨Pn, gh, G, own', env, k, E, q, n1, n2, n3, n4⟩ =>
    comp_go hv ⟨Pn, gh, G, own', env, _, E, q, fun ds p a xs H' kk si hp0 hp r => n1 _ p _ _ _ (E.putOwn kk si hO hp0 hp r)⟩

/-! ### a list of one's own, changed -/
/-- its slot: the value, the address -/
theorem own_slot {K : PySem.W.Frag} {Pn : Addr → HO → Prop} {gh : List (V × PyData)} {G : Addr → Prop} {own' : Nat → Option Addr} {σ : L2.St} {H : Hp} {env : Ev} (E : ER K x O Pn gh G own' σ H env) (hO : O i = true) {ds0 : List PyData} (e : env[i]? = some (some (.list ds0))) :
    ∃ p xs ds, own' i = some p ∧ σ[i]? = some (some (.ref p)) ∧ PyData.list ds0 = .list ds ∧ H p = some (.lst xs) ∧ RpAll K x.src (Fo G own') H xs ds := by
  obtain ⟨v, h1, h2⟩ := E.slot i _ e
  rw [if_pos hO] at h2
  rcases h2 with ⟨p, xs, ds, ho, rfl, ed, hp, r⟩ | ⟨_, n⟩
  · exact ⟨p, xs, ds, ho, h1, ed, hp, r⟩
  · exact absurd rfl (n ds0)
def gAppend (i : Nat) (fe : FE_) : FS_ := fun k env => match env[i]? with
  | some (some (.list ds)) => fe env fun d => ds.length < 16777216 ∧ k.nx (env.set i (some (.list (ds ++ [d]))))
  | _ => False
variable {apos cpos npos : Pos} {a : Expr} {fa fb : FE_}
theorem lt_line {n : Nat} (h : n < 16777216) : n < sizeLine := by rw [sizeLine_eq]; exact h
theorem fs_append (he : FE x O X a fe) (hO : O i = true := by rfl) (hN : X.N[i]? = some nm := by rfl) (hv : Vis X.env.scope nm := by first | exact Or.inl rfl | exact Or.inr (Or.inl rfl) | exact Or.inr (Or.inr rfl))
    (hbase : attributeBase (.Name nm npos) "append" X.env (eval (.Name nm npos) X.env) = eval (.Name nm npos) X.env := by rfl)
    (hfew : ((backTo cpos (starEach [a] X.env)).all (fun x => !x.1) && (backToKw cpos (keywordEach [] X.env)).all (fun x => x.1.isSome)
      && decide (([a] : List Expr).length + ([] : List Keyword).length + (if ([] : List Keyword).isEmpty then 0 else 1) < 30)) = true := by rfl)
    (hline : (apos.endLine == cpos.line) = true := by rfl) (hst : starEach [a] X.env = (false, eval a X.env) :: starEach [] X.env := by rfl) (hplain : (backTo cpos (starEach [] X.env)).any (·.1) = false := by rfl)
    (hd : (nm == ("__debug__" : Str)) = false := by decide) (hcd : (nm == ("__classdict__" : Str)) = false := by decide) (hs : swapsWith (.Call (.Attribute (.Name nm npos) "append" apos) [a] [] cpos) none pos.line X.env = pure false := by rfl) :
    FS x O X (.Expr (.Call (.Attribute (.Name nm npos) "append" apos) [a] [] cpos) pos) (gAppend i fe) :=
  (ps_expr (pe_bm PySem.F.plainAttrs_list PySem.F.slot_list_append PySem.F.type_list_append mt_append (pe_var hN hv hd hcd) (pa_cons he pa_nil hst) hbase hfew hline hst hplain) hs).imp fun D σ H ⟨Pn, gh, G, own', env, k, E, q, n1, n2, n3, n4⟩ => by
    unfold gAppend at q
    split at q
    · rename_i ds ed
      obtain ⟨p, xs, ds', ho, hσ, e2, hp, r⟩ := own_slot E hO ed
      cases e2
      refine ⟨.ref p, hσ, .inl ⟨rfl, _, SqL.of hp⟩, Pn, gh, G, own', env, _, E, q, fun d q1 w H1 k1 s1 r1 => ?_⟩
      have nS : ¬ x.S p := fun z => (E.ownL i p ho).2.1 (E.gS p z)
      have E1 := E.keep k1 s1
      have hp1 := k1 p _ hp nS
      have r2 := E.rpAll k1 r
      exact ⟨p, xs, w, rfl, rfl, hp1, lt_line (by rw [r.length]; exact q1.1), n1 _ q1.2 _ _ _ (E1.write ho hσ hp1 (r2.append (.cons r1 .nil)))⟩
    · exact q.elim
/-- x.insert(j, e) -/
def gInsert (i : Nat) (fj fe : FE_) : FS_ := fun k env => match env[i]? with
  | some (some (.list ds)) => fj env fun dj => fe env fun d => match dj with
    | .int j => (ds.length < 16777216 ∧ 0 ≤ j ∧ j < 2 ^ 63) ∧ k.nx (env.set i (some (.list (ds.take j.toNat ++ [d] ++ ds.drop j.toNat))))
    | _ => False
  | _ => False
variable {b : Expr}
theorem fs_insert (hj : FB x O X a fa) (he : FE x O X b fe) (hO : O i = true := by rfl) (hN : X.N[i]? = some nm := by rfl) (hv : Vis X.env.scope nm := by first | exact Or.inl rfl | exact Or.inr (Or.inl rfl) | exact Or.inr (Or.inr rfl))
    (hbase : attributeBase (.Name nm npos) "insert" X.env (eval (.Name nm npos) X.env) = eval (.Name nm npos) X.env := by rfl)
    (hfew : ((backTo cpos (starEach [a, b] X.env)).all (fun x => !x.1) && (backToKw cpos (keywordEach [] X.env)).all (fun x => x.1.isSome)
      && decide (([a, b] : List Expr).length + ([] : List Keyword).length + (if ([] : List Keyword).isEmpty then 0 else 1) < 30)) = true := by rfl)
    (hline : (apos.endLine == cpos.line) = true := by rfl) (hst : starEach [a, b] X.env = (false, eval a X.env) :: starEach [b] X.env := by rfl) (hst2 : starEach [b] X.env = (false, eval b X.env) :: starEach [] X.env := by rfl) (hplain : (backTo cpos (starEach [b] X.env)).any (·.1) = false := by rfl)
    (hd : (nm == ("__debug__" : Str)) = false := by decide) (hcd : (nm == ("__classdict__" : Str)) = false := by decide) (hs : swapsWith (.Call (.Attribute (.Name nm npos) "insert" apos) [a, b] [] cpos) none pos.line X.env = pure false := by rfl) :
    FS x O X (.Expr (.Call (.Attribute (.Name nm npos) "insert" apos) [a, b] [] cpos) pos) (gInsert i fa fe) :=
  (ps_expr (pe_bm PySem.F.plainAttrs_list PySem.F.slot_list_insert PySem.F.type_list_insert mt_insert (pe_var hN hv hd hcd) (pa_cons hj (pa_cons he pa_nil hst2) hst) hbase hfew hline hst hplain) hs).imp fun D σ H ⟨Pn, gh, G, own', env, k, E, q, n1, n2, n3, n4⟩ => by
    unfold gInsert at q
    split at q
    · rename_i ds ed
      obtain ⟨p, xs, ds', ho, hσ, e2, hp, r⟩ := own_slot E hO ed
      cases e2
      refine ⟨.ref p, hσ, .inl ⟨rfl, _, SqL.of hp⟩, Pn, gh, G, own', env, _, E, q, fun dj q1 wj H1 k1 s1 r1 => ?_⟩
      have nS : ¬ x.S p := fun z => (E.ownL i p ho).2.1 (E.gS p z)
      have E1 := E.keep k1 s1
      refine ⟨Pn, gh, G, own', env, _, E1, q1, fun d q2 w H2 k2 s2 r2 => ?_⟩
      split at q2
      · have E2 := E1.keep k2 s2
        have hp2 := k2 p _ (k1 p _ hp nS) nS
        have r3 := E1.rpAll k2 (E.rpAll k1 r)
        exact ⟨p, xs, _, w, rfl, by rw [r1.int], hp2, lt_line (by rw [r.length]; exact q2.1.1), q2.1.2.1, q2.1.2.2, n1 _ q2.2 _ _ _ (E2.write ho hσ hp2 (((r3.take _).append (.cons r2 .nil)).append (r3.drop _)))⟩
      · exact q2.elim
    · exact q.elim
/-- x[j] = e -/
def gSetIx (i : Nat) (fe fj : FE_) : FS_ := fun k env => fe env fun d => match env[i]? with
  | some (some (.list ds)) => fj env fun dj => match dj with
    | .int j => (match ixN ds.length j with
      | some m => k.nx (env.set i (some (.list (ds.set m d))))
      | none => False)
    | _ => False
  | _ => False
theorem fs_setIx (he : FE x O X b fe) (hj : FB x O X a fa) (hO : O i = true := by rfl) (hN : X.N[i]? = some nm := by rfl) (hv : Vis X.env.scope nm := by first | exact Or.inl rfl | exact Or.inr (Or.inl rfl) | exact Or.inr (Or.inr rfl))
    (ha : ∀ v, assign (.Subscript (.Name nm npos) a apos) X.env v = (do
      let ov ← holding [v] (eval (.Name nm npos) X.env)
      let iv ← holding [v, ov] (eval a X.env)
      standAt apos
      holding [v, ov, iv] (setItem ov iv v)
      release [v, ov, iv] []) := by intro _; rfl)
    (hd : (nm == ("__debug__" : Str)) = false := by decide) (hcd : (nm == ("__classdict__" : Str)) = false := by decide)
    (hs : swapsWithSole [.Subscript (.Name nm npos) a apos] b pos.line X.env = pure false := by rfl) (hw : swappedStores [.Subscript (.Name nm npos) a apos] b X.env = pure none := by rfl)
    (h1 : (assignEach [.Subscript (.Name nm npos) a apos] X.env).map (·.2) = [assign (.Subscript (.Name nm npos) a apos) X.env] := by rfl) :
    FS x O X (.Assign [.Subscript (.Name nm npos) a apos] b pos) (gSetIx i fe fa) :=
  (ps_asg he (pg_sub (pe_var hN hv hd hcd) hj set_list ha) hs hw h1).imp fun D σ H ⟨Pn, gh, G, own', env, k, E, q, n1, n2, n3, n4⟩ => by
    refine ⟨Pn, gh, G, own', env, _, E, q, fun d q1 w H1 k1 s1 r1 => ?_⟩
    have E1 := E.keep k1 s1
    split at q1
    · rename_i ds ed
      obtain ⟨p, xs, ds', ho, hσ, e2, hp, r⟩ := own_slot E1 hO ed
      cases e2
      refine ⟨.ref p, hσ, Pn, gh, G, own', env, _, E1, q1, fun dj q2 wj H2 k2 s2 r2 => ?_⟩
      have nS : ¬ x.S p := fun z => (E1.ownL i p ho).2.1 (E1.gS p z)
      split at q2
      · split at q2
        · rename_i m em
          have E2 := E1.keep k2 s2
          have hp2 := k2 p _ hp nS
          have r3 := E1.rpAll k2 r
          exact ⟨p, xs, _, m, rfl, r2.int, hp2, by rw [r.length]; exact em, n1 _ q2 _ _ _ (E2.write ho hσ hp2 (r3.set (E1.rp k2 r1) m))⟩
        · exact q2.elim
      · exact q2.elim
    · exact q1.elim
end
end FL

/-! F7: defs and their calls, with no marks around them. -/
namespace FL
open PySem PySem.Spec PyProof.Rows L2

/-- a def keeps its promise wherever it is called with no marks standing -/
structure FnG (P : Program) (w : World) (K : PySem.W.Frag) (mg : Str → Option Value) (base : Heap) (k : Nat) (f : Addr) (fd : FuncData) (ps : List Str) (sp : Sp) : Prop where
  len : ∀ vs H Q E, sp vs H Q E → vs.length = ps.length
  run : ∀ (A : Around) (outer : List Env) (s : Shared) (H : Hp) (args : Args) (us : List Value) (vs : List V) (Q : VK) (E : XK), A.guards = some [] → Room k A → Env0 P w K mg base A outer s H →
    BindsTo s fd args (ps.zip us) → Vals vs us → sp vs H Q E → codeAny (model P w) A (.call (.ref f) args) (CR CX0 outer P w H s Q E) s
theorem guards_deeper {A : Around} (h : A.guards = some []) (env : Env) : (A.deeper env).guards = some [] := h

section
variable {P : Program} {w : World} {K : PySem.W.Frag} {mg : Str → Option Value} {base : Heap}
/-- the rule for a def, from its body -/
theorem fnG_of {x qual : Str} {st : Stmt} {f : Addr} {fd : FuncData} {N ps : List Str} {k : Nat} {sp : Sp} (F : Fun K x qual st f fd) (S : FnScope N ps (defScope st)) (len : ∀ vs H Q E, sp vs H Q E → vs.length = ps.length)
    (hbody : ∀ (cdv : Value) (A : Around) (outer : List Env) (s : Shared) (H : Hp) (vs : List V) (Q : VK) (E : XK), A.guards = some [] → Room k (A.deeper (envOfC qual (defScope st) s.heap.objs.size f cdv)) → sp vs H Q E →
      ∃ t, PSs (cxOf CX0 P w K mg base N qual (defScope st) f cdv A outer s H E).nox (defBody st) t ∧ t { nx := fun _ H' => Q .non H', rt := Q } (start N vs) H) : FnG P w K mg base (k + 1) f fd ps sp := by
  obtain ⟨oc, od, kV, doc, pm, an, cdv, ct, osl, rfl, lk, hcd⟩ := F.ex
  constructor
  · exact len
  intro A outer s H args us vs Q E hg hr e0 hb r hsp
  have hlen := len _ _ _ _ hsp
  have hin : K.In s.heap := e0.mod.kin.keeps fun b o e => (e0.bs b o e).1
  have hlim : s.heap.NoLimit := e0.mod.nolimit.keeps fun b o e => (e0.bs b o e).1
  have kinds : ∀ y ∈ ps.zip us, (defScope st).names.lookup y.1 = some .local ∨ ((defScope st).names.lookup y.1 = some .cell ∧ ((cellsFrom (s.heap.objs.size + 1) (defScope st).names []).lookup y.1).isSome = true) := by
    rintro ⟨n, v⟩ hy
    exact (S.par n (List.of_mem_zip hy).1).imp (fun z => z) fun z => ⟨z, PySem.W.cellsFrom_some _ _ _ (.inl z)⟩
  refine codeAny_call_function hr.depth (hin _ _ lk) rfl S.co S.gen rfl (PySem.W.codeRec_of hin hcd) (hb _ _ _ _ (wpAny_newFunctionEnv_cells S.kind kinds ?_))
  intro env he s1 hx
  subst he
  refine ⟨hlim.keeps hx.toInCall.keep, codeAny_func ?_⟩
  obtain ⟨t, ht, hq⟩ := hbody cdv A outer s H vs Q E hg (hr.deeper _) hsp
  refine wpAny_mono (ht.nox.run [] s1 (start N vs) H _ (inv_start S hr.hd e0 hlen r hx) hq) ?_ (fun _ _ z => z)
  intro fl s' hs
  cases fl with
  | ret u =>
    obtain ⟨v, _, H', J, rv, q⟩ := hs
    exact ⟨v, H', J.os, J.bare, J.base, J.hok, rv, q⟩
  | next =>
    obtain ⟨_, H', J, q⟩ := hs
    exact ⟨V.non, H', J.os, J.bare, J.base, J.hok, rfl, q⟩
  | brk => exact hs.elim fun _ z => z.elim fun _ z => z.2.elim
  | cont => exact hs.elim fun _ z => z.elim fun _ z => z.2.elim
theorem FnG.imp {k : Nat} {f : Addr} {fd : FuncData} {ps : List Str} {sp sp' : Sp} (F : FnG P w K mg base k f fd ps sp) (h : ∀ vs H Q E, sp' vs H Q E → sp vs H Q E) : FnG P w K mg base k f fd ps sp' :=
  ⟨fun vs H Q E q => F.len vs H Q E (h _ _ _ _ q), fun A outer s H args us vs Q E hg hr he hb hv hs => F.run A outer s H args us vs Q E hg hr he hb hv (h _ _ _ _ hs)⟩

/-- a def that may be called by its name -/
structure Cal (P : Program) (w : World) (K : PySem.W.Frag) (mg : Str → Option Value) (base : Heap) (k : Nat) (x : Str) (sp : Sp) : Prop where
  ex : ∃ (f : Addr) (fd : FuncData) (ps : List Str), FnG P w K mg base k f fd ps sp ∧ mg x = some (.ref f) ∧ PySem.W.keepIn K (.ref f) = true ∧ Binds K fd ps []
/-- the def of a name, as the top leaves it -/
structure Dn (K : PySem.W.Frag) (mg : Str → Option Value) (x : Str) (st : Stmt) (ps : List Str) : Prop where
  ex : ∃ (f : Addr) (fd : FuncData), Fun K x x st f fd ∧ mg x = some (.ref f) ∧ Binds K fd ps []
theorem cal_of {x : Str} {st : Stmt} {N ps : List Str} {k : Nat} {sp : Sp} (D : Dn K mg x st ps) (S : FnScope N ps (defScope st)) (len : ∀ vs H Q E, sp vs H Q E → vs.length = ps.length)
    (hbody : ∀ (f : Addr) (cdv : Value) (A : Around) (outer : List Env) (s : Shared) (H : Hp) (vs : List V) (Q : VK) (E : XK), A.guards = some [] → Room k (A.deeper (envOfC x (defScope st) s.heap.objs.size f cdv)) → sp vs H Q E →
      ∃ t, PSs (cxOf CX0 P w K mg base N x (defScope st) f cdv A outer s H E).nox (defBody st) t ∧ t { nx := fun _ H' => Q .non H', rt := Q } (start N vs) H) : Cal P w K mg base (k + 1) x sp := by
  obtain ⟨f, fd, F, hm, hb⟩ := D.ex
  exact ⟨f, fd, ps, fnG_of F S len fun cdv => hbody f cdv, hm, F.kp, hb⟩
theorem Cal.imp {x : Str} {k : Nat} {sp sp' : Sp} (c : Cal P w K mg base k x sp) (h : ∀ vs H Q E, sp' vs H Q E → sp vs H Q E) : Cal P w K mg base k x sp' := by
  obtain ⟨f, fd, ps, F, h1, h2, h3⟩ := c.ex
  exact ⟨f, fd, ps, F.imp h, h1, h2, h3⟩
end
section
variable {X : Cx} {k j : Nat} {x : Str} {sp : Sp} {p pos : Pos} {e : Expr} {es : List Expr} {t : TA}
theorem run_cal {pins : List (Addr × Obj)} {σ : L2.St} {H : Hp} {s : Shared} {Q : VK} {us : List Value} {vs : List V} {f : Addr} {fd : FuncData} {ps : List Str} (F : FnG X.prog X.w X.K X.mg X.base k f fd ps sp) (hg : X.A.guards = some []) (hr : Room k X.A)
    (hb : Binds X.K fd ps []) (I : Inv X pins σ H s) (r : Vals vs us) (h : sp vs H Q E0) : wpAny (model X.prog X.w) X.A (call (.ref f) us) (EP X pins σ Q) X.xe s := by
  have hl : (us ++ []).length = ps.length := by rw [List.append_nil, ← r.length]; exact F.len _ _ _ _ h
  have r' : Vals vs (us ++ []) := by rw [List.append_nil]; exact r
  refine wpAny_call (codeAny_mono (F.run X.A X.stack s H ⟨us, []⟩ (us ++ []) vs Q E0 hg hr I.env0 (hb s us I.kIn hl) r' h) fun r s' hq => ?_)
  match r, hq with
  | .error _, hq => exact hq.elim
  | .ok (.ret u), hq => exact I.after hq
  | .ok .next, hq => exact hq.elim
  | .ok .brk, hq => exact hq.elim
  | .ok .cont, hq => exact hq.elim
theorem pe_cal (c : Cal X.prog X.w X.K X.mg X.base k x sp) (hgd : X.A.guards = some []) (hr : Room j X.A) (hk : k ≤ j) (hg : Gl X x) (ha : PA X (e :: es) t)
    (hdb : (x == ("__debug__" : Str)) = false := by decide) (he : starEach (e :: es) X.env = (false, eval e X.env) :: starEach es X.env := by rfl) (hpl : (backTo pos (starEach es X.env)).any (·.1) = false := by rfl) :
    PE X (.Call (.Name x p) (e :: es) [] pos) (tCall sp [] E0 t) := by
  obtain ⟨f, fd, ps, F, hm, kp, b⟩ := c.ex
  refine ⟨fun pins s σ H Q I h => ?_⟩
  refine wpAny_Call_Name_kw (ld_glob I hg hm (PySem.W.callWith_K (h₀ := X.base) I.ok.mod.kin kp (thn (ha.run pos pins s σ H _ I h) ?_) he hpl) hdb)
  rintro us s1 ⟨vs, H1, I1, r, q⟩
  refine ⟨I1.kIn, run_cal F hgd (hr.mono hk) b I1 r ?_⟩
  rw [List.append_nil] at q
  exact q
theorem pe_cal0 (c : Cal X.prog X.w X.K X.mg X.base k x sp) (hgd : X.A.guards = some []) (hr : Room j X.A) (hk : k ≤ j) (hg : Gl X x) (hdb : (x == ("__debug__" : Str)) = false := by decide) :
    PE X (.Call (.Name x p) [] [] pos) (tCall sp [] E0 tNil) := by
  obtain ⟨f, fd, ps, F, hm, kp, b⟩ := c.ex
  refine ⟨fun pins s σ H Q I h => ?_⟩
  exact wpAny_Call_Name_kw (ld_glob I hg hm (PySem.W.callWith_K0 I.kIn kp (run_cal (us := []) F hgd (hr.mono hk) b I .nil h)) hdb)
end

/-! ### promises by data -/
/-- from data to data -/
def spF (K : PySem.W.Frag) (x : Sx) (sp : S1_) : Sp := fun vs H Q _ => ∃ G ds P, x.SI H ∧ (∀ a, x.S a → G a) ∧ (∀ a, G a → ∃ o, H a = some o) ∧ RpAll K x.src G H vs ds ∧ sp ds P ∧
  ∀ d, P d → ∀ v H', Keep x.S H H' → x.SI H' → Rp K x.src G H' v d → Q v H'
section
variable {X : Cx} {x : Sx} {O : Nat → Bool} {k j : Nat} {nm : Str} {sp : S1_} {p pos : Pos} {e : Expr} {es : List Expr} {fr : FA_}
abbrev CalF (X : Cx) (x : Sx) (k : Nat) (nm : Str) (sp : S1_) : Prop := Cal X.prog X.w X.K X.mg X.base k nm (spF X.K x sp)
def fCall (sp : S1_) (fr : FA_) : FE_ := fun env P => fr env fun ds => sp ds P
theorem fe_call (c : CalF X x k nm sp) (hgd : X.A.guards = some []) (hr : Room j X.A) (hk : k ≤ j) (hg : Gl X nm) (ha : FA x O X (e :: es) fr)
    (hdb : (nm == ("__debug__" : Str)) = false := by decide) (he : starEach (e :: es) X.env = (false, eval e X.env) :: starEach es X.env := by rfl) (hpl : (backTo pos (starEach es X.env)).any (·.1) = false := by rfl) :
    FE x O X (.Call (.Name nm p) (e :: es) [] pos) (fCall sp fr) := (pe_cal c hgd hr hk hg ha hdb he hpl).imp fun σ H Q ⟨Pn, gh, G, own, env, P, E, q, kk⟩ => by
  refine ⟨Pn, gh, G, own, env, _, E, q, fun ds q1 vs H1 k1 s1 r1 => ?_⟩
  have E1 := E.keep k1 s1
  show spF X.K x sp (vs ++ []) H1 Q E0
  rw [List.append_nil]
  exact ⟨Fo G own, ds, P, s1, fun a z => .inl (E.gS a z), fun a z => E1.foH z, r1, q1, fun d p v H' k2 s2 r => kk d p v H' (k1.trans k2) s2 r⟩
theorem fe_call0 (c : CalF X x k nm sp) (hgd : X.A.guards = some []) (hr : Room j X.A) (hk : k ≤ j) (hg : Gl X nm) (hdb : (nm == ("__debug__" : Str)) = false := by decide) :
    FE x O X (.Call (.Name nm p) [] [] pos) (fCall sp fANil) := (pe_cal0 c hgd hr hk hg hdb).imp fun σ H Q ⟨Pn, gh, G, own, env, P, E, q, kk⟩ => by
  exact ⟨Fo G own, [], P, E.si, fun a z => .inl (E.gS a z), fun a z => E.foH z, .nil, q, fun d p v H' k2 s2 r => kk d p v H' k2 s2 r⟩
/-- lists of one's own among the arguments; what comes back holds no list -/
def fCallI (sp : S1_) (fr : FA_) : FE_ := fun env P => fr env fun ds => sp ds fun d => immut d = true ∧ P d
theorem rpb_small {K : PySem.W.Frag} {F : Addr → Prop} {H : Hp} (hF : ∀ a, x.S a → F a) : ∀ {vs : List V} {ds : List PyData}, RpBAll K x F H vs ds → RpAll K x.src x.S H vs ds
  | [], [], _ => .nil
  | v :: vs, d :: ds, h => by
    refine .cons ?_ (rpb_small hF h.2)
    rcases h.1 with r | ⟨p, xs, es, rfl, rfl, hp, n, r⟩
    · exact r.sub fun a z => .inl (hF a z)
    · exact .lst hp n (r.sub fun a z => .inl (hF a z))
  | [], _ :: _, h => h.elim
  | _ :: _, [], h => h.elim
theorem fe_callI (c : CalF X x k nm sp) (hgd : X.A.guards = some []) (hr : Room j X.A) (hk : k ≤ j) (hg : Gl X nm) (ha : FAB x O X (e :: es) fr)
    (hdb : (nm == ("__debug__" : Str)) = false := by decide) (he : starEach (e :: es) X.env = (false, eval e X.env) :: starEach es X.env := by rfl) (hpl : (backTo pos (starEach es X.env)).any (·.1) = false := by rfl) :
    FE x O X (.Call (.Name nm p) (e :: es) [] pos) (fCallI sp fr) := (pe_cal c hgd hr hk hg ha hdb he hpl).imp fun σ H Q ⟨Pn, gh, G, own, env, P, E, q, kk⟩ => by
  refine ⟨Pn, gh, G, own, env, _, E, q, fun ds q1 vs H1 k1 s1 r1 => ?_⟩
  show spF X.K x sp (vs ++ []) H1 Q E0
  rw [List.append_nil]
  refine ⟨x.S, ds, _, s1, fun a z => z, fun a z => ?_, rpb_small (fun a z => .inl (E.gS a z)) r1, q1, fun d p v H' k2 s2 r => kk d p.2 v H' (k1.trans k2) s2 (r.imm p.1)⟩
  obtain ⟨o, e, _⟩ := x.there H1 a s1 z
  exact ⟨o, e⟩
end
section
variable {P : Program} {w : World} {K : PySem.W.Frag} {mg : Str → Option Value} {base : Heap}
theorem start_er {x : Sx} {O : Nat → Bool} {N : List Str} {G : Addr → Prop} {H : Hp} {vs : List V} {ds : List PyData} (hN : vs.length ≤ N.length) (hO : ∀ i, i < vs.length → O i = false) (si : x.SI H) (gS : ∀ a, x.S a → G a) (gH : ∀ a, G a → ∃ o, H a = some o) (r : RpAll K x.src G H vs ds) :
    ER K x O (fun a o => H a = some o ∧ ¬ x.S a) [] G (fun _ => none) (L2.start N vs) H (ds.map some ++ List.replicate (N.length - ds.length) none) := by
  have el := r.length
  refine ⟨si, fun a o h => h.1, fun a o h => h.2, gS, gH, ?_, fun i p h => (nomatch h), fun i j p h _ => (nomatch h), fun v d h => (nomatch h), fun i d h => ?_⟩
  · unfold L2.start
    rw [List.length_append, List.length_append, List.length_map, List.length_map, List.length_replicate, List.length_replicate, el]
  · by_cases hi : i < ds.length
    · rw [List.getElem?_append_left (by simpa using hi), List.getElem?_map] at h
      obtain ⟨d', h1, h2⟩ := Option.map_eq_some_iff.mp h
      cases h2
      obtain ⟨v, e1, e2⟩ := r.get h1
      refine ⟨v, ?_, ?_⟩
      · unfold L2.start
        rw [List.getElem?_append_left (by rw [List.length_map, el]; exact hi), List.getElem?_map, e1]; rfl
      · rw [if_neg (by rw [hO i (by rw [el]; exact hi)]; exact Bool.false_ne_true)]
        exact e2.sub fun a z => by
          rcases z with z | ⟨i, z⟩
          · exact .inl z
          · cases z
    · rw [List.getElem?_append_right (by simpa using hi)] at h
      rw [List.getElem?_replicate] at h
      split at h <;> cases h
abbrev cxF (P : Program) (w : World) (K : PySem.W.Frag) (mg : Str → Option Value) (base : Heap) (N : List Str) (nm : Str) (st : Stmt) (f : Addr) (cdv : Value) (A : Around) (outer : List Env) (s : Shared) (H : Hp) (E : XK) : Cx :=
  (cxOf CX0 P w K mg base N nm (defScope st) f cdv A outer s H E).nox
/-- a def by the reading of its body -/
theorem calF {x : Sx} {O : Nat → Bool} {nm : Str} {st : Stmt} {N ps : List Str} {k : Nat} {sp : S1_} {g : FS_} (D : Dn K mg nm st ps) (S : FnScope N ps (defScope st)) (hps : ps.length ≤ N.length) (hO : ∀ i, i < ps.length → O i = false)
    (len : ∀ ds Q, sp ds Q → ds.length = ps.length)
    (hb : ∀ (f : Addr) (cdv : Value) (A : Around) (outer : List Env) (s : Shared) (H : Hp) (E : XK), A.guards = some [] → Room k (A.deeper (envOfC nm (defScope st) s.heap.objs.size f cdv)) → FSs x O (cxF P w K mg base N nm st f cdv A outer s H E) (defBody st) g)
    (hg : ∀ ds Q, sp ds Q → g { nx := fun _ => Q .none, rt := Q } (ds.map some ++ List.replicate (N.length - ds.length) none)) : Cal P w K mg base (k + 1) nm (spF K x sp) := by
  refine cal_of D S (fun vs H Q E ⟨G, ds, Pd, _, _, _, r, q, _⟩ => ?_) fun f cdv A outer s H vs Q E hgd hr ⟨G, ds, Pd, si, gS, gH, r, q, kk⟩ => ?_
  · rw [r.length]; exact len _ _ q
  · refine ⟨_, hb f cdv A outer s H E hgd hr, ?_⟩
    have el := r.length
    have hlen := len _ _ q
    refine ⟨_, [], G, fun _ => none, _, _, start_er (by rw [el, hlen]; exact hps) (by rw [el, hlen]; exact hO) si gS gH r, hg _ _ q, ?_, ?_, fun _ z => z.elim, fun _ z => z.elim⟩
    · intro env' h σ' H' own' E'
      refine kk _ h _ _ (fun a o e n => E'.pin a o ⟨e, n⟩) E'.si .non
    · intro d h v H' si' hp r'
      exact kk d h v H' (fun a o e n => hp a o ⟨e, n⟩) si' r'
end
end FL

/-! F8: more expressions: in, *, sorted, repr, methods of tuples. -/
namespace FL
open PySem PySem.Spec PyProof.Rows L2

section
variable {X : Cx} {x : Sx} {O : Nat → Bool} {pos : Pos} {a b c e : Expr} {fa fb fc : FE_} {es : List Expr} {fr : FA_}

/-! ### in, not in -/
def itemsD : PyData → Option (List PyData)
  | .list ds => some ds
  | .tuple ds => some ds
  | _ => none
def sIn : S2_ := fun d e P => Fit d ∧ Fit e ∧ (match itemsD e with
  | some ds => P (.bool (ds.any fun z => PyData.eqv z d))
  | none => False)
def sNotIn : S2_ := fun d e P => Fit d ∧ Fit e ∧ (match itemsD e with
  | some ds => P (.bool (!ds.any fun z => PyData.eqv z d))
  | none => False)
def rInX (neg : Bool) (K : PySem.W.Frag) : R2 := fun x y H Q => ∃ d e ds, Dp K H x d ∧ Dp K H y e ∧ Fit d ∧ Fit e ∧ itemsD e = some ds ∧ Q (.bl (neg != ds.any fun z => PyData.eqv z d)) H
theorem op_inX (hu : X.A.units + 65 < cLine) : OpR X (compareOp .In) (rInX false X.K) := by
  intro pins s σ H v w u t Q I rx ry ⟨d, e, ds, hd, he, sd, se, ei, q⟩
  obtain ⟨as, r1⟩ := Dp.reads I d v u hd rx
  obtain ⟨bs, r2⟩ := Dp.reads I e w t he ry
  rw [Bool.false_bne] at q
  cases e <;> cases ei
  · exact SeqAt.in_list_reads r2 r1 (SeqAt.canLay_of_shaped se) (SeqAt.canLay_of_shaped sd) (room_in_shaped sd hu) ⟨.bl _, H, I, rfl, q⟩
  · exact SeqAt.in_tuple_reads r2 r1 (SeqAt.canLay_of_shaped se) (SeqAt.canLay_of_shaped sd) (room_in_shaped sd hu) ⟨.bl _, H, I, rfl, q⟩
theorem op_notInX (hu : X.A.units + 65 < cLine) : OpR X (compareOp .NotIn) (rInX true X.K) := by
  intro pins s σ H v w u t Q I rx ry ⟨d, e, ds, hd, he, sd, se, ei, q⟩
  obtain ⟨as, r1⟩ := Dp.reads I d v u hd rx
  obtain ⟨bs, r2⟩ := Dp.reads I e w t he ry
  rw [Bool.true_bne] at q
  cases e <;> cases ei
  · exact SeqAt.notIn_list_reads r2 r1 (SeqAt.canLay_of_shaped se) (SeqAt.canLay_of_shaped sd) (room_in_shaped sd hu) ⟨.bl _, H, I, rfl, q⟩
  · exact SeqAt.notIn_tuple_reads r2 r1 (SeqAt.canLay_of_shaped se) (SeqAt.canLay_of_shaped sd) (room_in_shaped sd hu) ⟨.bl _, H, I, rfl, q⟩
theorem s_in : Op2 X x (rInX false X.K) sIn := by
  intro F H v w d e P Q si hS hF rv rw_ ⟨h1, h2, h⟩ k
  split at h
  · rename_i ds ei
    exact ⟨d, e, ds, rv.dp h1.plain, rw_.dp h2.plain, h1, h2, ei, by rw [Bool.false_bne]; exact k _ h _ H (Same.refl H) (.bl _)⟩
  · exact h.elim
theorem s_notIn : Op2 X x (rInX true X.K) sNotIn := by
  intro F H v w d e P Q si hS hF rv rw_ ⟨h1, h2, h⟩ k
  split at h
  · rename_i ds ei
    exact ⟨d, e, ds, rv.dp h1.plain, rw_.dp h2.plain, h1, h2, ei, by rw [Bool.true_bne]; exact k _ h _ H (Same.refl H) (.bl _)⟩
  · exact h.elim

/-! ### repr -/
mutual
/-- a bound of the length of what repr says; ints of at most 1900 bits -/
def wtD : PyData → Nat
  | .none => 4
  | .bool _ => 5
  | .int i => i.natAbs.log2 + 3
  | .str x => (reprText x).length
  | .list ds => wtAll ds + 3
  | .tuple ds => wtAll ds + 3
  | .dict _ => 0
def wtAll : List PyData → Nat
  | [] => 0
  | d :: ds => wtD d + 2 + wtAll ds
end
theorem shownAll_len : ∀ ds : List PyData, (PyData.shownAll ds).length = ds.length
  | [] => by simp only [PyData.shownAll, List.length_nil]
  | d :: r => by simp only [PyData.shownAll, List.length_cons, shownAll_len r]
mutual
theorem shown_wt : ∀ d : PyData, d.canLay0 = true → d.shown.length ≤ wtD d
  | .none, _ => by simp only [PyData.shown, wtD]; decide
  | .bool b, _ => by simp only [PyData.shown, wtD]; cases b <;> decide
  | .int i, _ => by
    simp only [PyData.shown, wtD]
    have h := int_text_length_le (a := i) (k := i.natAbs.log2 + 1) (Nat.succ_pos _) (Nat.lt_succ_self _)
    show (Str.ofString (toString i)).length ≤ _
    rw [PySem.ofString_length]; omega
  | .str y, _ => by simp only [PyData.shown, wtD]; exact Nat.le_refl _
  | .list ds, h => by
    have h1 := shown_wtAll ds (by simpa [PyData.canLay0] using h)
    have h2 := listText_len_le (PyData.shownAll ds)
    have h3 := shownAll_len ds
    simp only [PyData.shown, wtD]; omega
  | .tuple ds, h => by
    have h1 := shown_wtAll ds (by simpa [PyData.canLay0] using h)
    have h2 := tupleText_len_le (PyData.shownAll ds)
    have h3 := shownAll_len ds
    simp only [PyData.shown, wtD]; omega
  | .dict _, h => by simp [PyData.canLay0] at h
theorem shown_wtAll : ∀ ds : List PyData, PyData.canLayAll0 ds = true → ((PyData.shownAll ds).map (·.length)).sum + 2 * ds.length ≤ wtAll ds
  | [], _ => by simp only [PyData.shownAll, wtAll]; decide
  | d :: ds, h => by
    have h' : d.canLay0 = true ∧ PyData.canLayAll0 ds = true := by simpa [PyData.canLayAll0] using h
    have h1 := shown_wt d h'.1
    have h2 := shown_wtAll ds h'.2
    simp only [PyData.shownAll, wtAll, List.map_cons, List.sum_cons, List.length_cons]; omega
end
/-- what repr may be asked of -/
def Says (d : PyData) : Prop := Fit d ∧ d.showable = true ∧ wtD d ≤ 16777216
def sRepr : S1_ := fun ds P => match ds with
  | [d] => Says d ∧ P (.str d.shown)
  | _ => False
def rReprX (K : PySem.W.Frag) : List V → Hp → VK → Prop := fun vs H Q => ∃ v d, vs = [v] ∧ Dp K H v d ∧ Says d ∧ Q (.str d.shown) H
theorem call_reprX (hg : X.A.guards = some []) (hu : X.A.units + 65 < cLine) : CallR X (.builtin "repr") (rReprX X.K) := by
  intro pins s σ H vs us Q I r ⟨v, d, e, hd, ⟨h1, h2, h3⟩, q⟩
  subst e
  obtain ⟨u, rfl, ru⟩ := vals1 r
  obtain ⟨as, rd⟩ := Dp.reads I d v u hd ru
  have lay := SeqAt.canLay_of_shaped h1
  have dep := SeqAt.depth_of_shaped h1
  have hz : d.shown.length ≤ sizeLine := by rw [sizeLine_eq]; exact Nat.le_trans (shown_wt d lay) h3
  cases u with
  | ref a =>
    exact repr_of_reads' rd h2 (PyData.noDict_hsm (PyData.hasDict_of_canLay d lay)) hg (by omega) (fun _ _ e => e) (fun h' t tk k => ⟨.str d.shown, H, I.kept k, ⟨t, rfl⟩, q⟩) hz
  | _ =>
    cases rd <;> first
      | exact P.repr_of_none ⟨.str _, H, I.tok _, ⟨_, rfl⟩, q⟩
      | exact P.repr_of_bool ⟨.str _, H, I.tok _, ⟨_, rfl⟩, q⟩
      | exact P.repr_of_int (by simpa [PyData.showable] using h2) ⟨.str _, H, I.tok _, ⟨_, rfl⟩, q⟩
      | exact P.repr_of_str ⟨.str _, H, I.tok _, ⟨_, rfl⟩, q⟩ hz
theorem s_repr : CallS X x (rReprX X.K) sRepr := by
  intro F H vs ds P Q si hS hF rv h k
  unfold sRepr at h
  split at h
  · rename_i d
    obtain ⟨v, rfl, r⟩ := rpb1 rv
    exact ⟨v, d, rfl, r.dp h.1.1.plain, h.1, k _ h.2 _ H (Same.refl H) (.str _)⟩
  · exact h.elim

/-! ### * -/
/-- a tuple times an int -/
def rMulT (K : PySem.W.Frag) : R2 := fun x y H Q => ∃ l k xs, x = .ref l ∧ y = .int k ∧ SqT K H l xs ∧ -1000000 ≤ k ∧ k ≤ 1000000 ∧ xs.length * k.toNat ≤ 1000000 ∧
  (xs = [] ∨ k = 1 → Q (.ref l) H) ∧ (¬ (xs = [] ∨ k = 1) → ∀ p o, H p = none → o.dict = none → Q (.ref p) (upd H p (.frz o (.tup (List.replicate k.toNat xs).flatten))))
theorem tmul_same (l : Addr) (its : Array Value) (n : Nat) (dd : Option Addr) (sl : Array (Option Value)) (k : Int) (t : Tok) (z0 : (decide (k < -(2 ^ 63)) || decide (k ≥ 2 ^ 63)) = false) (z1 : (its.isEmpty || k == 1) = true) :
    Meets (Builtin.«tuple.__mul__» ⟨[.ref l, .int k t], []⟩) (fun _ R s => s.heap.get? l = some { cls := .type "tuple", dict := dd, data := .seq its n, slots := sl } ∧ R (.ok (.ret (.ref l))) s) :=
  .of_wp fun prog w A R s h => by
    obtain ⟨hp, g, d, tk, os⟩ := s
    obtain ⟨hl, h⟩ := h
    have f1 := AutoSeq1.idx_int
    wp_walk using wpAny_loadPart' hl
    refine wpAny_ite_false (decide_eq_false (by rw [z0]; exact Bool.false_ne_true)) ?_
    wp_walk using wpAny_loadPart' hl
    exact ⟨_, rfl, h⟩
theorem tmul_none (l : Addr) (its : Array Value) (n : Nat) (dd : Option Addr) (sl : Array (Option Value)) (k : Int) (t : Tok) (z0 : (decide (k < -(2 ^ 63)) || decide (k ≥ 2 ^ 63)) = false) (z1 : (its.isEmpty || k == 1) = false) (z2 : (decide (k ≤ 0) || its.isEmpty) = true) :
    Meets (Builtin.«tuple.__mul__» ⟨[.ref l, .int k t], []⟩) (fun _ R s => s.heap.get? l = some { cls := .type "tuple", dict := dd, data := .seq its n, slots := sl } ∧
      R (.ok (.ret (.ref s.heap.objs.size))) { s with heap := s.heap.push { cls := .type "tuple", data := .seq #[] } }) :=
  .of_wp fun prog w A R s h => by
    obtain ⟨hp, g, d, tk, os⟩ := s
    obtain ⟨hl, h⟩ := h
    have f1 := AutoSeq1.idx_int
    wp_walk using wpAny_loadPart' hl
    refine wpAny_ite_false (decide_eq_false (by rw [z0]; exact Bool.false_ne_true)) ?_
    wp_walk using wpAny_loadPart' hl
    exact ⟨_, rfl, h⟩
theorem op_mulT : OpR X (binaryOp .Mult) (rMulT X.K) := by
  intro pins s σ H v w u t' Q I rx ry ⟨l, k, xs, e1, e2, hT, b1, b2, b3, q1, q2⟩
  subst e1; subst e2
  cases rx
  obtain ⟨t, rfl⟩ := ry
  obtain ⟨its, r, ⟨⟨cls, dd, data, sl⟩, ho, hc, n, hd⟩, hs⟩ := I.tuple hT
  simp only at hc hd
  subst hc hd
  have len := r.length
  have z0 : (decide (k < -(2 ^ 63)) || decide (k ≥ 2 ^ 63)) = false := by
    rw [decide_eq_false (show ¬ k < -(2 ^ 63) by omega), decide_eq_false (show ¬ k ≥ 2 ^ 63 by omega)]; rfl
  have emp : its.toArray.isEmpty = true ↔ xs = [] := by
    rw [List.isEmpty_toArray, List.isEmpty_iff]
    constructor
    · intro e; subst e; exact List.eq_nil_of_length_eq_zero len
    · intro e; subst e; exact List.eq_nil_of_length_eq_zero len.symm
  have go : ∀ {P : Value → Shared → Prop}, wpAny (model X.prog X.w) X.A (call (.builtin "tuple.__mul__") [.ref l, .int k t]) P X.xe s → wpAny (model X.prog X.w) X.A (binaryOp .Mult (.ref l) (.int k t)) P X.xe s := fun h =>
    wpAny_binaryOp_repeat_ref (T := "tuple") (U := "int") (by decide) ⟨_, ho, rfl⟩ (fun s' => typeIs_int s' k t) noFill_tuple_mul F.fills_int_mul F.slot_int_rmul repeat_tuple F.slot_int_index.lookup
      (call_meets F.slot_int_rmul (typeIs_int s k t) F.entry_int_rmul (F.args_int_rmul_2 _ _) (int_rmul_tuple k t l its.toArray n dd sl) ⟨ho, rfl, ⟨_, ho, rfl⟩, h⟩)
  have mul : ∀ {P : Value → Shared → Prop} {pre : (A : Around) → (Result → Shared → Prop) → Shared → Prop}, True := trivial
  refine go ?_
  by_cases z1 : (its.toArray.isEmpty || k == 1) = true
  · refine call_meets F.slot_tuple_mul ⟨_, ho, rfl⟩ F.entry_tuple_mul (F.args_tuple_mul_2 _ _) (tmul_same l its.toArray n dd sl k t z0 z1) ⟨ho, ?_⟩
    refine ⟨.ref l, H, I, rfl, q1 ?_⟩
    rcases Bool.or_eq_true_iff.mp z1 with z | z
    · exact .inl (emp.mp z)
    · exact .inr (beq_iff_eq.mp z)
  · have z1' : (its.toArray.isEmpty || k == 1) = false := by simpa using z1
    have ne : ¬ (xs = [] ∨ k = 1) := fun z => z1 (by
      rcases z with z | z
      · rw [emp.mpr z]; rfl
      · rw [z]; exact Bool.or_true _)
    have q3 := q2 ne s.heap.objs.size
    have fr := I.hok.fresh (Nat.le_refl s.heap.objs.size)
    by_cases z2 : (decide (k ≤ 0) || its.toArray.isEmpty) = true
    · refine call_meets F.slot_tuple_mul ⟨_, ho, rfl⟩ F.entry_tuple_mul (F.args_tuple_mul_2 _ _) (tmul_none l its.toArray n dd sl k t z0 z1' z2) ⟨ho, ?_⟩
      have k0 : k ≤ 0 := by
        rcases Bool.or_eq_true_iff.mp z2 with z | z
        · exact of_decide_eq_true z
        · exact absurd (Or.inl (emp.mp z)) ne
      have e0 : (List.replicate k.toNat xs).flatten = [] := by
        rw [Int.toNat_of_nonpos k0]; rfl
      rw [e0] at q3
      refine ⟨.ref s.heap.objs.size, _, I.laid (t' := s.toks) (o := .frz { cls := .type "tuple", data := .seq #[] } (.tup [])) (fun b ob z => Heap.get?_push_of_some _ z) (Nat.le_refl _) ?_, rfl, q3 _ fr rfl⟩
      exact ⟨Heap.get?_push_size _ rfl, Nat.zero_le _, [], .nil, ⟨_, Heap.get?_push_size _ rfl, rfl, _, rfl⟩⟩
    · have z2' : (decide (k ≤ 0) || its.toArray.isEmpty) = false := by simpa using z2
      have k1 : 0 < k := by
        have := (Bool.or_eq_false_iff.mp z2').1
        have := of_decide_eq_false this
        omega
      have hm : ((its.toArray.size : Nat) : Int) * k ≤ 1000000 := by
        rw [List.size_toArray, ← len]
        have e : ((xs.length * k.toNat : Nat) : Int) = (xs.length : Int) * k := by
          rw [Int.natCast_mul, Int.toNat_of_nonneg (by omega)]
        omega
      have fl : (List.replicate k.toNat its).flatten.length ≤ sizeLine := by
        rw [PyProof.Rows.lm_len_rep_flat, ← len, sizeLine_eq, Nat.mul_comm]; omega
      have z4 : Builtin.Tuple.tupleTooMany (((its.toArray.size : Nat) : Int) * k) = false := by
        unfold Builtin.Tuple.tupleTooMany
        rw [sizeLine_eq]
        exact decide_eq_false (by omega)
      refine call_meets F.slot_tuple_mul ⟨_, ho, rfl⟩ F.entry_tuple_mul (F.args_tuple_mul_2 _ _) (tuple_mulW l its.toArray n dd sl k t z0 z1' z2' (by omega) z4 (by rw [size_rep, List.size_toArray]; exact fl)) ⟨ho, ?_⟩
      rw [size_rep]
      refine ⟨.ref s.heap.objs.size, _, I.laid (t' := s.toks) (o := .frz { cls := .type "tuple", data := .seq (List.replicate k.toNat its).flatten.toArray } (.tup (List.replicate k.toNat xs).flatten)) (fun b ob z => Heap.get?_push_of_some _ z) (Nat.le_refl _) ?_, rfl, q3 _ fr rfl⟩
      exact ⟨Heap.get?_push_size _ rfl, by rw [PyProof.Rows.lm_len_rep_flat, sizeLine_eq, Nat.mul_comm]; omega, _, r.rep k.toNat, ⟨_, Heap.get?_push_size _ rfl, rfl, _, rfl⟩⟩
def sMul : S2_ := fun d e P => match d, e with
  | .int i, .int j => CMulW i j ∧ P (.int (i * j))
  | .list ds, .int k => (-(2 ^ 63) ≤ k ∧ k < 2 ^ 63 ∧ ds.length * k.toNat ≤ 16777216) ∧ P (.list (List.replicate k.toNat ds).flatten)
  | .tuple ds, .int k => (-1000000 ≤ k ∧ k ≤ 1000000 ∧ ds.length * k.toNat ≤ 1000000) ∧ P (.tuple (List.replicate k.toNat ds).flatten)
  | _, _ => False
theorem op_mulAll : OpR X (binaryOp .Mult) (fun v w H Q => rI CMulW (fun i j => .int (i * j)) v w H Q ∨ (rRep v w H Q ∨ rMulT X.K v w H Q)) := op_mulW.or (op_rep.or op_mulT)
theorem s_mul : Op2 X x (fun v w H Q => rI CMulW (fun i j => .int (i * j)) v w H Q ∨ (rRep v w H Q ∨ rMulT X.K v w H Q)) sMul := by
  intro F H v w d e P Q si hS hF rv rw_ h k
  unfold sMul at h
  split at h
  · exact .inl ⟨_, _, rv.int, rw_.int, h.1, k _ h.2 _ H (Same.refl H) (.int _)⟩
  · obtain ⟨p, xs, rfl, hp, r⟩ := rv.lst
    exact .inr (.inl ⟨p, _, xs, rfl, rw_.int, hp, h.1.1, h.1.2.1, line_ok (by rw [r.length]; exact h.1.2.2), fun q hq => k _ h.2 _ _ (same_upd hq) (rp_newL hF hq (r.rep _))⟩)
  · rename_i ds i
    obtain ⟨p, o, xs, rfl, hp, hd, r⟩ := rv.tup
    refine .inr (.inr ⟨p, _, xs, rfl, rw_.int, sqT_of hp, h.1.1, h.1.2.1, by rw [r.length]; exact h.1.2.2, fun z => ?_, fun z q o hq hdq => k _ h.2 _ _ (same_upd hq) (rp_newT hq hdq (r.rep _))⟩)
    have e : (List.replicate i.toNat ds).flatten = ds := by
      rcases z with z | z
      · subst z
        cases r
        simp
      · subst z
        simp
    have q := k _ h.2 (.ref p) H (Same.refl H)
    rw [e] at q
    exact q (.tup hp hd r)
  · exact h.elim
end
end FL

/-! F9: sorted of lists and tuples of data. -/
namespace FL
open PySem PySem.Spec PyProof.Rows L2

section
variable {prog : Program} {w : World} {A : Around} {E : Value → Shared → Prop} {s : Shared}
theorem collect_tup {l : Addr} {vs : List Value} {Q : List Value → Shared → Prop} (hl : s.heap.IsTuple l vs.toArray) (hsz : vs.length ≤ sizeLine)
    (h : Q vs { s with heap := (s.heap.push (seqObj "list" #[] 0)).update s.heap.objs.size (Obj.mapSeq (· ++ vs.toArray)) }) : wpAny (model prog w) A (collect (.ref l)) Q E s := by
  obtain ⟨o, ho, hc, n, hd⟩ := id hl
  unfold collect
  refine wpAny_bind (wpAny_runValue (codeAny_builtin entry_proto_collect' ?_))
  refine wpAny_bind (m := newList []) (wpAny_newList ?_)
  refine wpAny_pure ⟨Code.quiet_builtin _ (by decide +kernel), codeAny_builtin entry_list_iadd' ?_⟩
  have ho2 : (s.heap.push (seqObj "list" #[] 0)).get? l = some o := Heap.get?_push_of_some _ ho
  have new : (s.heap.push (seqObj "list" #[] 0)).get? s.heap.objs.size = some (seqObj "list" #[] 0) := Heap.get?_push_size _ rfl
  show wpAny _ _ (Builtin.List.listExtendWith (.ref s.heap.objs.size) (.ref l) (.ref s.heap.objs.size)) _ _ { s with heap := s.heap.push (seqObj "list" #[] 0) }
  unfold Builtin.List.listExtendWith
  refine wpAny_bind (wpAny_typeOf (T := "tuple") ⟨o, ho2, hc⟩ ?_)
  rw [if_pos (by rw [show (Value.type "tuple" == Value.type "tuple") = true from rfl]; simp)]
  refine wpAny_bind (listItems_at ho2 hd (wpAny_bind (listItems_at (xs := #[]) (n := 0) new rfl ?_)))
  rw [if_neg (by simp)]
  refine wpAny_bind (listUpdate_at (xs := #[]) (n := 0) new rfl (wpAny_pure ?_) (Nat.zero_le _) (by simp only [Array.size_append, List.size_toArray]; simp; omega))
  refine wpAny_bind (m := load s.heap.objs.size) (wpAny_load (get?_update_seq new _) ?_)
  have e : ((#[] : Array Value) ++ vs.toArray).toList = vs := by simp
  refine wpAny_pure ?_
  rw [e]
  exact h
theorem collect_sq {kd : Bool} {l : Addr} {vs : List Value} {Q : List Value → Shared → Prop} (hl : IsSq kd s.heap l vs.toArray) (hsz : vs.length ≤ sizeLine)
    (h : Q vs { s with heap := (s.heap.push (seqObj "list" #[] 0)).update s.heap.objs.size (Obj.mapSeq (· ++ vs.toArray)) }) : wpAny (model prog w) A (collect (.ref l)) Q E s := by
  cases kd with
  | true => exact collect_list hl h hsz
  | false => exact collect_tup hl hsz h
/-- sorted(xs) is sort of a copy -/
theorem sorted_sq {kd : Bool} {l : Addr} {vs : List Value} {Q : Value → Shared → Prop} (hl : IsSq kd s.heap l vs.toArray) (hsz : vs.length ≤ sizeLine)
    (go : ∀ E' : Value → Shared → Prop, wpAny (model prog w) A.in1.in1 (Builtin.«list.sort» ⟨[.ref (s.heap.objs.size + 1)], []⟩) (fun f s' => f = .done (.ret .none) ∧ Q (.ref (s.heap.objs.size + 1)) s') E' { s with heap := PySem.W.copyHeap s.heap vs }) :
    wpAny (model prog w) A (call (.builtin "sorted") [.ref l]) Q E s := by
  refine Calls.call_function_entry kind_sorted plain_sorted entry_sorted (args_sorted1 _) ?_
  unfold Builtin.«sorted»
  refine wpAny_bind (m := checkCount "sorted" 1 1 _) (wpAny_pure ?_)
  refine wpAny_bind (collect_sq hl hsz ?_)
  refine wpAny_bind (wpAny_newList ?_ hsz)
  have e : ((s.heap.push (seqObj "list" #[] 0)).update s.heap.objs.size (Obj.mapSeq (· ++ vs.toArray))).objs.size = s.heap.objs.size + 1 := by rw [Heap.size_update, size_push']
  show wpAny _ _ _ _ _ { s with heap := PySem.W.copyHeap s.heap vs }
  rw [e]
  refine wpAny_bind (wpAny_holding (wpAny_call_entry slot_list_sort ⟨_, PySem.W.copyHeap_at s.heap vs, rfl⟩ entry_list_sort ?inner (args_list_sort _)))
  case inner =>
    show wpAny (model prog w) A.in1.in1 (Builtin.«list.sort» ⟨[.ref (s.heap.objs.size + 1)], []⟩) _ _ _
    exact wpAny_mono (go _) (fun f s' ⟨e1, hq⟩ => by subst e1; exact ⟨_, rfl, wpAny_pure ⟨_, rfl, hq⟩⟩) fun _ _ z => z
end

/-- what may be sorted -/
def Sorts (ds : List PyData) : Prop := (∀ d ∈ ds, Fit d) ∧ (ds.length ≤ 1 ∨ (PySem.W.AllAlike ds ∧ PySem.W.Sortable ds))
def srtD (ds : List PyData) : List PyData := ds.mergeSort (PySem.W.dataLe false id)
def rSortX (K : PySem.W.Frag) : List V → Hp → VK → Prop := fun xs H Q => ∃ kd a vs ds, xs = [.ref a] ∧ Sq K kd H a vs ∧ DpAll K H vs ds ∧ Sorts ds ∧
  ∀ (p : Addr) (ps : List (V × PyData)), H p = none → ps.map Prod.snd = srtD ds → (∀ q ∈ ps, q ∈ vs.zip ds) → Q (.ref p) (upd H p (.lst (ps.map Prod.fst)))
section
variable {X : Cx} {x : Sx}
theorem dpAll_len {K : PySem.W.Frag} {H : Hp} : ∀ {vs : List V} {ds : List PyData}, DpAll K H vs ds → vs.length = ds.length
  | _, _, .nil => rfl
  | _, _, .cons _ r => by simp [dpAll_len r]
theorem each_pairs : ∀ {vs : List V} {us : List Value} {ds : List PyData}, Vals vs us → vs.length = ds.length → PySem.W.EachIs (fun (u : Value) (q : V × PyData) => RelV q.1 u) us (vs.zip ds)
  | _, _, [], .nil, _ => .nil
  | _, _, d :: ds, .cons r t, e => .cons r (each_pairs t (by simpa using e))
theorem each_reads {h : Heap} : ∀ {us : List Value} {vs : List V} {ds : List PyData} {as : List Addr}, ReadsAll h us ds as → vs.length = ds.length → PySem.W.EachIs (fun (u : Value) (q : V × PyData) => ∃ as, Reads h u q.2 as) us (vs.zip ds)
  | _, [], [], _, .nil, _ => .nil
  | _, v :: vs, d :: ds, _, .cons r t, e => .cons ⟨_, r⟩ (each_reads t (by simpa using e))
theorem vals_of_each : ∀ {us : List Value} {qs : List (V × PyData)}, PySem.W.EachIs (fun (u : Value) (q : V × PyData) => RelV q.1 u) us qs → Vals (qs.map Prod.fst) us
  | _, _, .nil => .nil
  | _, _, .cons r t => .cons r (vals_of_each t)
theorem map_snd_zip {α β : Type} : ∀ {vs : List α} {ds : List β}, vs.length = ds.length → (vs.zip ds).map Prod.snd = ds
  | [], [], _ => rfl
  | _ :: vs, _ :: ds, e => by rw [List.zip_cons_cons, List.map_cons, map_snd_zip (by simpa using e)]
theorem depth_le_all : ∀ {d : PyData} {ds : List PyData}, d ∈ ds → Fit d → d.depth ≤ 64 := fun _ h => SeqAt.depth_of_shaped h
theorem perm_small {α : Type} {xs ys : List α} (h : ys.length ≤ 1) (p : xs.Perm ys) : xs = ys := by
  cases ys with
  | nil => exact List.Perm.eq_nil p
  | cons y r =>
    cases r with
    | nil => exact List.perm_singleton.mp p
    | cons z r => exact absurd h (by simp)
theorem call_sortX (hu : X.A.units + 67 < cLine) : CallR X (.builtin "sorted") (rSortX X.K) := by
  intro pins s σ H xs us Q I r ⟨kd, a, vs, ds, e, hs, hd, ⟨hf, hc⟩, q⟩
  subst e
  obtain ⟨u, rfl, rx⟩ := vals1 r
  cases rx
  obtain ⟨its, rv, isq, hz⟩ := sq_run I hs
  have len := dpAll_len hd
  have lv := rv.length
  have hz' : its.length ≤ sizeLine := by rw [← lv]; exact hz
  obtain ⟨as, ra⟩ := Dp.readsAll I ds vs its hd rv
  have ep := each_pairs rv len
  have fr := I.hok.fresh (Nat.le_succ s.heap.objs.size)
  have fin : ∀ (out : List Value) (ps : List (V × PyData)), PySem.W.EachIs (fun (u : Value) (q : V × PyData) => RelV q.1 u) out ps → ps.map Prod.snd = srtD ds → (∀ q ∈ ps, q ∈ vs.zip ds) → ps.length = vs.length →
      EP X pins σ Q (.ref (s.heap.objs.size + 1)) { s with heap := sortedAll s.heap its out.toArray } := fun out ps e1 e2 e3 e4 => by
    obtain ⟨n, he⟩ := sortedAll_at s.heap its out.toArray
    have rv' := vals_of_each e1
    refine ⟨.ref _, upd H (s.heap.objs.size + 1) (.lst (ps.map Prod.fst)), I.laid (t' := s.toks) (fun _ _ => sortedAll_old) (Nat.le_succ _) ⟨?_, out, n, rv', he⟩, rfl, q _ _ fr e2 e3⟩
    rw [List.length_map, e4]; exact hz
  have same_ : ∀ out : Array Value, sortedHeap (PySem.W.copyHeap s.heap its) (s.heap.objs.size + 1) its out = sortedAll s.heap its out := fun _ => rfl
  refine sorted_sq (kd := kd) isq hz' fun E' => ?_
  rcases hc with hc | ⟨ha, hk⟩
  · have h1 : its.length ≤ 1 := by rw [← lv, len]; exact hc
    have c0 : ∀ R : PySem.Fin → Shared → Prop, (∀ out : List Value, out.Perm its → R (.done (.ret .none)) { s with heap := sortedHeap (PySem.W.copyHeap s.heap its) (s.heap.objs.size + 1) its out.toArray }) →
        wpAny (model X.prog X.w) X.A.in1.in1 (Builtin.«list.sort» ⟨[.ref (s.heap.objs.size + 1)], []⟩) R E' { s with heap := PySem.W.copyHeap s.heap its } := fun R hR =>
      Srt.list_sort_any (s := { s with heap := PySem.W.copyHeap s.heap its }) (a := s.heap.objs.size + 1) (vs := its) (n := 0) (PySem.W.copyHeap_at s.heap its) hz' (fun h2 => absurd (Nat.le_trans h2 h1) (by decide)) hR
    refine c0 _ fun out ho => ?_
    refine And.intro rfl ?_
    rw [same_]
    have eo : out = its := perm_small h1 ho
    subst eo
    refine fin out (vs.zip ds) ep ?_ (fun _ h => h) (by rw [List.length_zip, ← len, Nat.min_self])
    rw [map_snd_zip len]
    unfold srtD
    match ds, hc with
    | [], _ => simp
    | [d], _ => simp
  · have k2 : ∀ b o, s.heap.get? b = some o → (PySem.W.sortingHeap (PySem.W.copyHeap s.heap its) (s.heap.objs.size + 1) its).get? b = some o := fun _ _ => PySem.W.sorting_copy_old
    have ra2 := PyProof.Rows.ReadsAll.keeps k2 ra
    have er := each_reads (vs := vs) ra2 len
    have hm : (vs.zip ds).map Prod.snd = ds := map_snd_zip len
    have S := PySem.W.SortsAt.data (prog := X.prog) (w := X.w) (A := X.A.in1.in1) (s := { s with heap := PySem.W.sortingHeap (PySem.W.copyHeap s.heap its) (s.heap.objs.size + 1) its }) (ds := ds)
      (by have := PySem.W.each_map (R := fun v d => ∃ as, Reads (PySem.W.sortingHeap (PySem.W.copyHeap s.heap its) (s.heap.objs.size + 1) its) v d as) Prod.snd er; rw [hm] at this; exact this) ha hk
      (fun d hd' => by have := SeqAt.depth_of_shaped (hf d hd'); show X.A.units + 1 + 1 + _ < _; omega)
    refine PySem.W.list_sort_vals (s := { s with heap := PySem.W.copyHeap s.heap its }) (PySem.W.copyHeap_at s.heap its) S hz' ⟨rfl, ?_⟩
    rw [same_]
    have z := PySem.W.sortVals_data (enc := Prod.snd) false ep er (by rw [hm]; exact ha)
    rw [hm] at z
    refine fin _ _ z ?_ (fun q hq => (List.mergeSort_perm _ _).mem_iff.mp hq) (by rw [List.length_mergeSort, List.length_zip, ← len, Nat.min_self])
    unfold srtD
    exact (List.map_mergeSort (s := PySem.W.dataLe false id) (f := Prod.snd) fun _ _ _ _ => rfl).trans (by rw [hm])
end
end FL

/-! F10: sorted, list(range), starred items, methods of tuples, several targets, xs[i] += e. -/
namespace FL
open PySem PySem.Spec PyProof.Rows L2

section
variable {X : Cx} {x : Sx} {O : Nat → Bool} {pos : Pos} {a b c e : Expr} {fa fb fc : FE_} {es : List Expr} {fr : FA_}
theorem RpAll.zip_mem {K : PySem.W.Frag} {sc : Option Addr} {F : Addr → Prop} {H : Hp} : ∀ {vs : List V} {ds : List PyData}, RpAll K sc F H vs ds → ∀ q ∈ vs.zip ds, Rp K sc F H q.1 q.2
  | _, _, .nil, q, h => by simp at h
  | _, _, .cons h r, q, hq => by
    rw [List.zip_cons_cons] at hq
    rcases List.mem_cons.mp hq with e | hq
    · subst e; exact h
    · exact RpAll.zip_mem r q hq
theorem RpAll.of_mem {K : PySem.W.Frag} {sc : Option Addr} {F : Addr → Prop} {H : Hp} : ∀ {ps : List (V × PyData)}, (∀ q ∈ ps, Rp K sc F H q.1 q.2) → RpAll K sc F H (ps.map Prod.fst) (ps.map Prod.snd)
  | [], _ => .nil
  | p :: ps, h => .cons (h p List.mem_cons_self) (RpAll.of_mem fun q hq => h q (List.mem_cons_of_mem _ hq))
theorem fst_zip {α β : Type} : ∀ {vs : List α} {ds : List β}, vs.length = ds.length → (vs.zip ds).map Prod.fst = vs
  | [], [], _ => rfl
  | _ :: vs, _ :: ds, e => by rw [List.zip_cons_cons, List.map_cons, fst_zip (by simpa using e)]
mutual
theorem Fit.all0 : ∀ {ds : List PyData}, (∀ d ∈ ds, d.canLay0 = true) → PyData.canLayAll0 ds = true
  | [], _ => rfl
  | d :: ds, h => by
    rw [PyData.canLayAll0, h d List.mem_cons_self, Fit.all0 fun d hd => h d (List.mem_cons_of_mem _ hd)]
    rfl
end
def sSorted : SN_ := fun ds P => match ds with
  | [d] => (match itemsD d with
    | some xs => Sorts xs ∧ P (srtD xs)
    | none => False)
  | _ => False
theorem s_sorted : CallN X x (rSortX X.K) sSorted := by
  intro F H vs ds P Q si hS hF rv h k
  unfold sSorted at h
  split at h
  · rename_i d
    split at h
    · rename_i xs ei
      obtain ⟨v, rfl, r⟩ := rpb1 rv
      have ek : ∃ kd, kdOf d = some (kd, xs) := by
        cases d <;> cases ei
        · exact ⟨true, rfl⟩
        · exact ⟨false, rfl⟩
      obtain ⟨kd, ek⟩ := ek
      obtain ⟨p, ys, rfl, hp, r'⟩ := r.sq ek
      have dp : DpAll X.K H ys xs := r'.dp (plainAll_of (Fit.all0 fun d hd => SeqAt.canLay_of_shaped (h.1.1 d hd)))
      refine ⟨kd, p, ys, xs, rfl, hp, dp, h.1, fun q ps hq e1 e2 => k _ h.2 q _ _ (same_upd hq) hq upd_same ?_⟩
      rw [← e1]
      exact rpAll_new hq (RpAll.of_mem fun q hq => r'.zip_mem q (e2 q hq))
    · exact h.elim
  · exact h.elim

/-! ### list(range(..)) -/
abbrev FR_ := Ev → (Int → Int → Prop) → Prop
def tFR (K : PySem.W.Frag) (x : Sx) (O : Nat → Bool) (f : FR_) : L2.St → Hp → (Int → Int → Hp → Prop) → Prop := fun σ H Q => ∃ Pn gh G own env P, ER K x O Pn gh G own σ H env ∧ f env P ∧ ∀ i j, P i j → ∀ H', Keep x.S H H' → x.SI H' → Q i j H'
def fR1 (fa : FE_) : FR_ := fun env P => fa env fun d => match d with
  | .int j => P 0 j
  | _ => False
def fR2 (fa fb : FE_) : FR_ := fun env P => fa env fun d => fb env fun e => match d, e with
  | .int i, .int j => P i j
  | _, _ => False
theorem rg_1 {p : Pos} (hg : Gl X "range") (hm : X.mg "range" = none) (ha : FB x O X a fa) (na : starEach [a] X.env = (false, eval a X.env) :: starEach [] X.env := by rfl) : PRg X (.Call (.Name "range" p) [a] [] pos) (tFR X.K x O (fR1 fa)) := by
  intro pins s σ H Q I ⟨Pn, gh, G, own, env, P, E, q, k⟩
  refine prg_1 hg hm ha na pins s σ H Q I ⟨Pn, gh, G, own, env, _, E, q, fun d q1 v H1 k1 s1 r1 => ?_⟩
  split at q1
  · exact ⟨_, r1.int, k _ _ q1 H1 k1 s1⟩
  · exact q1.elim
theorem rg_2 {p : Pos} (hg : Gl X "range") (hm : X.mg "range" = none) (ha : FB x O X a fa) (hb : FB x O X b fb) (na : starEach [a, b] X.env = (false, eval a X.env) :: starEach [b] X.env := by rfl)
    (nb : starEach [b] X.env = (false, eval b X.env) :: starEach [] X.env := by rfl) (hp : (backTo pos (starEach [b] X.env)).any (·.1) = false := by rfl) : PRg X (.Call (.Name "range" p) [a, b] [] pos) (tFR X.K x O (fR2 fa fb)) := by
  intro pins s σ H Q I ⟨Pn, gh, G, own, env, P, E, q, k⟩
  refine prg_2 hg hm ha hb na nb hp pins s σ H Q I ⟨Pn, gh, G, own, env, _, E, q, fun d q1 v H1 k1 s1 r1 => ⟨Pn, gh, G, own, env, _, E.keep k1 s1, q1, fun e q2 w H2 k2 s2 r2 => ?_⟩⟩
  split at q2
  · exact ⟨_, _, r1.int, r2.int, k _ _ q2 H2 (k1.trans k2) s2⟩
  · exact q2.elim
def fLstRg (f : FR_) : FA_ := fun env P => f env fun i j => RgOk i j ∧ P (rangeD i (j - i).toNat)
theorem fn_listRg {p : Pos} {f : FR_} (hc : X.calm = true) (hg : Gl X "list") (hm : X.mg "list" = none) (he : PRg X e (tFR X.K x O f)) (na : starEach [e] X.env = (false, eval e X.env) :: starEach [] X.env := by rfl) : FN x O X (.Call (.Name "list" p) [e] [] pos) (fLstRg f) :=
  (pe_listRg hc hg hm he na).imp fun σ H Q ⟨Pn, gh, G, own, env, P, E, q, k⟩ =>
    ⟨Pn, gh, G, own, env, _, E, q, fun i j q1 H1 k1 s1 => ⟨q1.1, fun p hp => k _ q1.2 p _ _ (k1.trans (Keep.upd hp)) (x.updN s1 hp) (Keep.none E.si s1 k1 hp) upd_same (by
      have e : rgV i j = ((List.range (j - i).toNat).map fun m => i + (m : Nat)).map V.int := by unfold rgV; rw [List.map_map]; rfl
      have e' : rangeD i (j - i).toNat = ((List.range (j - i).toNat).map fun m => i + (m : Nat)).map PyData.int := by unfold rangeD; rw [List.map_map]; rfl
      rw [e, e']
      exact RpAll.ofInts _)⟩⟩

/-! ### *xs among the items -/
def fAStar (fa : FE_) (fr : FA_) : FA_ := fun env P => fa env fun d => match itemsD d with
  | some xs => fr env fun ds => P (xs ++ ds)
  | none => False
theorem RpB.items {K : PySem.W.Frag} {F : Addr → Prop} {H : Hp} {v : V} {d : PyData} {xs : List PyData} (h : RpB K x F H v d) (e : itemsD d = some xs) : ∃ p ys, v = .ref p ∧ (SqT K H p ys ∨ SqL K H p ys) ∧ RpAll K x.src F H ys xs := by
  cases d <;> cases e
  · obtain ⟨p, ys, e1, hp, r⟩ := h.lst
    exact ⟨p, ys, e1, .inr (SqL.of hp), r⟩
  · obtain ⟨p, o, ys, e1, hp, hd, r⟩ := h.tup
    exact ⟨p, ys, e1, .inl (sqT_of hp), r⟩
theorem fa_star {p : Pos} (ha : FB x O X e fa) (hr : FA x O X es fr) (hs : starEach (.Starred e p :: es) X.env = (true, eval e X.env) :: starEach es X.env := by rfl) : FA x O X (.Starred e p :: es) (fAStar fa fr) := (StX.pa_star ha hr hs).imp fun σ H Q ⟨Pn, gh, G, own, env, P, E, q, k⟩ => by
  refine ⟨Pn, gh, G, own, env, _, E, q, fun d q1 v H1 k1 s1 r1 => ?_⟩
  have E1 := E.keep k1 s1
  split at q1
  · rename_i xs ei
    obtain ⟨p, ys, e1, hp, r⟩ := r1.items ei
    exact ⟨p, ys, e1, hp, Pn, gh, G, own, env, _, E1, q1, fun ds q2 vs H2 k2 s2 r2 => k _ q2 _ H2 (k1.trans k2) s2 ((E1.rpAll k2 r).append r2)⟩
  · exact q1.elim

/-! ### t.index(i), t.count(i) of ints -/
def fIdx (fa fb : FE_) : FE_ := fun env P => fa env fun d => match d with
  | .tuple ds => (match intsOf ds with
    | some ns => fb env fun e => match e with
      | .int i => i ∈ ns ∧ P (.int (ns.idxOf i : Nat))
      | _ => False
    | none => False)
  | _ => False
def fCnt (fa fb : FE_) : FE_ := fun env P => fa env fun d => match d with
  | .tuple ds => fb env fun e => (Fit (.tuple ds) ∧ Fit e) ∧ P (.int (ds.countP fun y => PyData.eqv y e : Nat))
  | _ => False
variable {apos cpos : Pos} {o : Expr} {fo : FE_}
def tTM (r : V → List V → Hp → VK → Prop) (to : TE) (t : TA) : TE := fun σ H Q => to σ H fun v H1 => (∃ p ob xs, v = .ref p ∧ H1 p = some (.frz ob (.tup xs)) ∧ ob.dict = none) ∧ t σ H1 fun ws H2 => r v ws H2 Q
/-- a method of a tuple, with an argument -/
theorem pe_tm {nm : Str} {id : String} {to : TE} {t : TA} {r : V → List V → Hp → VK → Prop} (slot : Slot "tuple" nm id) (hty : typeOf (.builtin id) = pure (.type "method_descriptor")) (hm : MtR X id r) (ho : PE X o to) (ha : PA X [a] t)
    (hbase : attributeBase o nm X.env (eval o X.env) = eval o X.env := by rfl)
    (hfew : ((backTo cpos (starEach [a] X.env)).all (fun x => !x.1) && (backToKw cpos (keywordEach [] X.env)).all (fun x => x.1.isSome)
      && decide (([a] : List Expr).length + ([] : List Keyword).length + (if ([] : List Keyword).isEmpty then 0 else 1) < 30)) = true := by rfl)
    (hline : (apos.endLine == cpos.line) = true := by rfl) (hst : starEach [a] X.env = (false, eval a X.env) :: starEach [] X.env := by rfl) (hpl : (backTo cpos (starEach [] X.env)).any (·.1) = false := by rfl) :
    PE X (.Call (.Attribute o nm apos) [a] [] cpos) (tTM r to t) := by
  refine ⟨fun pins s σ H Q I h => ?_⟩
  refine wpAny_Call_method_late hbase hfew hline rfl (thn (ho.run pins s σ H _ I h) ?_)
  rintro u s1 ⟨v, H1, I1, ru, ⟨p, ob, xs, rfl, hp, hd⟩, q⟩
  cases ru
  obtain ⟨e, _, its, _, o', eo, hc, _⟩ := I1.hok p _ hp
  rw [e] at eo; cases eo
  refine ⟨"tuple", id, PySem.F.plainAttrs_tuple, slot, hty, ⟨ob, e, hc⟩, fun a ea => ?_, ?_⟩
  · cases ea; exact ⟨ob, e, hd⟩
  have hA := ha.run cpos pins s1 σ H1 _ I1 q
  rw [hst] at hA ⊢
  refine Calls.callWith_builtin (by show (false || (backTo cpos (starEach [] X.env)).any (·.1)) = false; rw [hpl]; rfl) (Calls.evalArgs_plain (thn hA ?_))
  rintro us s2 ⟨ws, H2, I2, rw_, q2⟩
  exact hm pins s2 σ H2 (.ref p) ws _ us Q I2 rfl rw_ q2
def rTIdx (K : PySem.W.Frag) : V → List V → Hp → VK → Prop := fun v ws H Q => ∃ (p : Addr) (ns : List Int) (i : Int), v = .ref p ∧ ws = [.int i] ∧ SqT K H p (ns.map V.int) ∧ i ∈ ns ∧ Q (.int (ns.idxOf i : Nat)) H
theorem mt_tidx : MtR X "tuple.index" (rTIdx X.K) := by
  intro pins s σ H v ws u us Q I rv rw_ ⟨p, ns, i, e1, e2, hp, hi, q⟩
  subst e1; subst e2
  cases rv
  obtain ⟨t, rfl, ⟨tk, rfl⟩⟩ := vals1 rw_
  obtain ⟨its, r, hl, hz⟩ := I.tuple hp
  exact SeqAt.tuple_index_ints hl r.ints hi ⟨.int _, H, I.tok _, ⟨_, rfl⟩, q⟩
def rTCnt (K : PySem.W.Frag) : V → List V → Hp → VK → Prop := fun v ws H Q => ∃ p ys y ds d, v = .ref p ∧ ws = [y] ∧ SqT K H p ys ∧ DpAll K H ys ds ∧ Dp K H y d ∧ Fit (.tuple ds) ∧ Fit d ∧ Q (.int (ds.countP fun z => PyData.eqv z d : Nat)) H
mutual
theorem plain_lib : ∀ d : PyData, d.canLay0 = true → d.plain = true
  | .none, _ => rfl
  | .bool _, _ => rfl
  | .int _, _ => rfl
  | .str _, _ => rfl
  | .list ds, h => by simp only [PyData.plain]; exact plain_libAll ds (by simpa [PyData.canLay0] using h)
  | .tuple ds, h => by simp only [PyData.plain]; exact plain_libAll ds (by simpa [PyData.canLay0] using h)
  | .dict _, h => by simp [PyData.canLay0] at h
theorem plain_libAll : ∀ ds : List PyData, PyData.canLayAll0 ds = true → PyData.plainAll ds = true
  | [], _ => rfl
  | d :: ds, h => by
    have h' : d.canLay0 = true ∧ PyData.canLayAll0 ds = true := by simpa [PyData.canLayAll0] using h
    simp only [PyData.plainAll, plain_lib d h'.1, plain_libAll ds h'.2, Bool.and_self]
end
theorem mt_tcnt (hu : X.A.units + 65 < cLine) : MtR X "tuple.count" (rTCnt X.K) := by
  intro pins s σ H v ws u us Q I rv rw_ ⟨p, ys, y, ds, d, e1, e2, hp, hd, hy, f1, f2, q⟩
  subst e1; subst e2
  cases rv
  obtain ⟨t, rfl, ry⟩ := vals1 rw_
  obtain ⟨its, r, hl, hz⟩ := I.tuple hp
  obtain ⟨as, ra⟩ := Dp.readsAll I ds ys its hd r
  obtain ⟨bs, rb⟩ := Dp.reads I d y t hy ry
  have l1 : PyData.canLayAll0 ds = true := by have := SeqAt.canLay_of_shaped f1; simpa [PyData.canLay0] using this
  have l2 := SeqAt.canLay_of_shaped f2
  have z := SeqAt.depth_of_shaped f2
  refine SeqAt.count_tuple_data (vs := its.toArray) hl ra rb (plain_libAll ds l1) (plain_lib d l2) ?_ ⟨.int _, H, I.tok _, ⟨_, rfl⟩, q⟩
  exact Nat.lt_of_le_of_lt (Nat.add_le_add_left (Nat.min_le_right _ _) _) (by omega)
theorem fe_tidx (ho : FB x O X o fo) (ha : FB x O X a fa) (hbase : attributeBase o "index" X.env (eval o X.env) = eval o X.env := by rfl)
    (hfew : ((backTo cpos (starEach [a] X.env)).all (fun x => !x.1) && (backToKw cpos (keywordEach [] X.env)).all (fun x => x.1.isSome)
      && decide (([a] : List Expr).length + ([] : List Keyword).length + (if ([] : List Keyword).isEmpty then 0 else 1) < 30)) = true := by rfl)
    (hline : (apos.endLine == cpos.line) = true := by rfl) (hst : starEach [a] X.env = (false, eval a X.env) :: starEach [] X.env := by rfl) (hpl : (backTo cpos (starEach [] X.env)).any (·.1) = false := by rfl) :
    FE x O X (.Call (.Attribute o "index" apos) [a] [] cpos) (fIdx fo fa) := (pe_tm PySem.F.slot_tuple_index PySem.F.type_tuple_index mt_tidx ho (pa_cons ha pa_nil hst) hbase hfew hline hst hpl).imp fun σ H Q ⟨Pn, gh, G, own, env, P, E, q, k⟩ => by
  refine ⟨Pn, gh, G, own, env, _, E, q, fun d q1 v H1 k1 s1 r1 => ?_⟩
  have E1 := E.keep k1 s1
  split at q1
  · rename_i ds
    split at q1
    · rename_i ns en
      obtain ⟨p, ob, ys, rfl, hp, hob, r⟩ := r1.tup
      have en' := intsOf_eq en
      subst en'
      refine ⟨⟨p, ob, ys, rfl, hp, hob⟩, Pn, gh, G, own, env, _, E1, q1, fun e q2 w H2 k2 s2 r2 => ?_⟩
      rw [r.ints] at hp
      split at q2
      · exact ⟨p, ns, _, rfl, by rw [r2.int], sqT_of (x.frz s1 k2 _ _ _ hp), q2.1, k _ q2.2 _ H2 (k1.trans k2) s2 (.int _)⟩
      · exact q2.elim
    · exact q1.elim
  · exact q1.elim
theorem fe_tcnt (hu : X.A.units + 65 < cLine) (ho : FB x O X o fo) (ha : FB x O X a fa) (hbase : attributeBase o "count" X.env (eval o X.env) = eval o X.env := by rfl)
    (hfew : ((backTo cpos (starEach [a] X.env)).all (fun x => !x.1) && (backToKw cpos (keywordEach [] X.env)).all (fun x => x.1.isSome)
      && decide (([a] : List Expr).length + ([] : List Keyword).length + (if ([] : List Keyword).isEmpty then 0 else 1) < 30)) = true := by rfl)
    (hline : (apos.endLine == cpos.line) = true := by rfl) (hst : starEach [a] X.env = (false, eval a X.env) :: starEach [] X.env := by rfl) (hpl : (backTo cpos (starEach [] X.env)).any (·.1) = false := by rfl) :
    FE x O X (.Call (.Attribute o "count" apos) [a] [] cpos) (fCnt fo fa) := (pe_tm PySem.F.slot_tuple_count PySem.F.type_tuple_count (mt_tcnt hu) ho (pa_cons ha pa_nil hst) hbase hfew hline hst hpl).imp fun σ H Q ⟨Pn, gh, G, own, env, P, E, q, k⟩ => by
  refine ⟨Pn, gh, G, own, env, _, E, q, fun d q1 v H1 k1 s1 r1 => ?_⟩
  have E1 := E.keep k1 s1
  split at q1
  · rename_i ds
    obtain ⟨p, ob, ys, rfl, hp, hob, r⟩ := r1.tup
    refine ⟨⟨p, ob, ys, rfl, hp, hob⟩, Pn, gh, G, own, env, _, E1, q1, fun e q2 w H2 k2 s2 r2 => ?_⟩
    have pl := q2.1.1.plain
    exact ⟨p, ys, w, ds, e, rfl, rfl, sqT_of (x.frz s1 k2 _ _ _ hp), (E1.rpAll k2 r).dp (by simpa [plain] using pl), r2.dp q2.1.2.plain, q2.1.1, q2.1.2, k _ q2.2 _ H2 (k1.trans k2) s2 (.int _)⟩
  · exact q1.elim

/-! ### xs[j] += e -/
def rGetL : V → V → Hp → VK → Prop := fun o i H Q => ∃ p xs k y, o = .ref p ∧ i = .int k ∧ H p = some (.lst xs) ∧ atI xs k = some y ∧ Q y H
theorem get_lst : PGet X rGetL := by
  intro pins s σ H o i ov iv Q I ro ri ⟨p, xs, k, y, e1, e2, hp, hy, q⟩
  subst e1; subst e2
  cases ro
  obtain ⟨t, rfl⟩ := ri
  obtain ⟨its, r, pl, hz⟩ := I.list (SqL.of hp)
  obtain ⟨j, h1, h2, h3, h4, h5⟩ := atI_get hy
  obtain ⟨u, eu, ru⟩ := r.get h2
  have hl := r.length
  have hn := line63
  have fin : EP X pins σ Q u s := ⟨y, H, I, ru, q⟩
  by_cases h0 : 0 ≤ k
  · have hj : k.toNat = j := by
      rw [seqIndex_of h0 h5] at h1
      exact Option.some.inj h1
    exact wpAny_getItem_list pl.isList h0 (by omega) (by rw [hj]; simpa using eu) fin
  · have hj : (k + (its.toArray.size : Int)).toNat = j := by
      rw [seqIndex_neg (by omega) h4] at h1
      rw [List.size_toArray, ← hl]
      exact Option.some.inj h1
    exact wpAny_getItem_list_neg pl.isList (by omega) (by rw [List.size_toArray]; omega) (by omega) (by rw [hj]; simpa using eu) fin
variable {i : Nat} {nm : Str} {npos tpos : Pos}
def gAugIx (i : Nat) (fj fe : FE_) : FS_ := fun k env => match env[i]? with
  | some (some (.list ds)) => fj env fun dj => match dj with
    | .int j => (match atI ds j, ixN ds.length j with
      | some (.int old), some m => fe env fun d => match d with
        | .int y => k.nx (env.set i (some (.list (ds.set m (.int (old + y))))))
        | _ => False
      | _, _ => False)
    | _ => False
  | _ => False
theorem fs_augIx (hj : FB x O X a fa) (he : FB x O X b fb) (hO : O i = true := by rfl) (hN : X.N[i]? = some nm := by rfl) (hv : Vis X.env.scope nm := by first | exact Or.inl rfl | exact Or.inr (Or.inl rfl) | exact Or.inr (Or.inr rfl))
    (hd : (nm == ("__debug__" : Str)) = false := by decide) (hcd : (nm == ("__classdict__" : Str)) = false := by decide)
    (ha : ∀ ov iv new, augStore a ov iv new = (do holding [new, ov, iv] (setItem ov iv new); release [new, ov, iv] []; pure .next) := by intros; rfl) :
    FS x O X (.AugAssign (.Subscript (.Name nm npos) a tpos) .Add b pos) (gAugIx i fa fb) :=
  (ps_augS (pe_var hN hv hd hcd) hj get_lst he ip_add set_list ha).imp fun D σ H ⟨Pn, gh, G, own', env, k, E, q, n1, n2, n3, n4⟩ => by
    unfold gAugIx at q
    split at q
    · rename_i ds ed
      obtain ⟨p, xs, ds', ho, hσ, e2, hp, r⟩ := own_slot E hO ed
      cases e2
      refine ⟨.ref p, hσ, Pn, gh, G, own', env, _, E, q, fun dj q1 wj H1 k1 s1 r1 => ?_⟩
      have nS : ¬ x.S p := fun z => (E.ownL i p ho).2.1 (E.gS p z)
      have E1 := E.keep k1 s1
      have hp1 := k1 p _ hp nS
      have rr1 := E.rpAll k1 r
      split at q1
      · rename_i j
        split at q1
        · rename_i old m ea em
          obtain ⟨u, hu, ru⟩ := atI_rp rr1 ea
          cases ru
          refine ⟨p, xs, j, _, rfl, r1.int, hp1, hu, Pn, gh, G, own', env, _, E1, q1, fun d q2 w H2 k2 s2 r2 => ?_⟩
          split at q2
          · rename_i y
            have E2 := E1.keep k2 s2
            have hp2 := k2 p _ hp1 nS
            have rr2 := E1.rpAll k2 rr1
            exact ⟨old, y, rfl, r2.int, p, xs, j, m, rfl, r1.int, hp2, by rw [r.length]; exact em, n1 _ q2 _ _ _ (E2.write ho hσ hp2 (rr2.set (.int _) m))⟩
          · exact q2.elim
        · exact q1.elim
      · exact q1.elim
    · exact q.elim
end
end FL

/-! F11: two or three targets at once, any target, extend. -/
namespace FL
open PySem PySem.Spec PyProof.Rows L2

section
variable {K : PySem.W.Frag} {x : Sx} {O : Nat → Bool} {Pn : Addr → HO → Prop} {gh : List (V × PyData)} {G : Addr → Prop} {own : Nat → Option Addr} {σ : L2.St} {H H0 : Hp} {env : Ev}
/-- a new list barred, its content pinned -/
theorem ER.lend {p : Addr} {xs : List V} (E : ER K x O Pn gh G own σ H0 env) (k : Keep x.S H0 H) (si : x.SI H) (hp0 : H0 p = none) (hp : H p = some (.lst xs)) :
    ER K x O (fun a o => Pn a o ∨ (a = p ∧ o = .lst xs)) gh (fun a => G a ∨ a = p) own σ H env := by
  have E1 := E.keep k si
  have nS : ¬ x.S p := fun z => by
    obtain ⟨o, e, n, _⟩ := x.there H p si z
    rw [hp] at e; cases e
    obtain ⟨o', e', _⟩ := x.there H0 p E.si z
    rw [hp0] at e'; cases e'
  have sub : ∀ a, Fo (fun a => G a ∨ a = p) own a → Fo G own a ∨ H0 a = none := fun a h => by
    rcases h with (h | h) | h
    · exact .inl (.inl h)
    · exact .inr (by rw [h]; exact hp0)
    · exact .inl (.inr h)
  have up : ∀ {v d}, Rp K x.src (Fo G own) H0 v d → Rp K x.src (Fo (fun a => G a ∨ a = p) own) H v d := fun r => r.keep (fun a o e n => k a o e (E.foS n)) (x.frz E.si k) sub
  have upA : ∀ {v d}, RpAll K x.src (Fo G own) H0 v d → RpAll K x.src (Fo (fun a => G a ∨ a = p) own) H v d := fun r => r.keep (fun a o e n => k a o e (E.foS n)) (x.frz E.si k) sub
  refine ⟨si, fun a o h => ?_, fun a o h => ?_, fun a h => .inl (E.gS a h), fun a h => ?_, E.len, fun i q h => ?_, E.inj, fun v d hm => up (E.ghs v d hm), fun i d h => ?_⟩
  · rcases h with h | ⟨rfl, rfl⟩
    · exact E1.pin a o h
    · exact hp
  · rcases h with h | ⟨rfl, rfl⟩
    · exact E.pinS a o h
    · exact nS
  · rcases h with h | h
    · exact E1.gH a h
    · exact ⟨_, by rw [h]; exact hp⟩
  · obtain ⟨h1, h2, h3, ys, e⟩ := E.ownL i q h
    obtain ⟨_, _, _, ys', e'⟩ := E1.ownL i q h
    have nq : q ≠ p := fun z => by rw [z, hp0] at e; cases e
    exact ⟨h1, fun z => z.elim h2 nq, fun o z => z.elim (h3 o) fun z => nq z.1, ys', e'⟩
  · obtain ⟨v, h1, h2⟩ := E.slot i d h
    refine ⟨v, h1, ?_⟩
    split
    · rename_i hO
      rw [if_pos hO] at h2
      exact h2.mono (fun q ys e hq => k q _ hq fun z => (E.ownL i q e).2.1 (E.gS q z)) fun ys ds r => upA r
    · rename_i hO
      rw [if_neg hO] at h2
      exact up h2
/-- .. and owned at last -/
theorem ER.claim {p : Addr} {xs : List V} {ds : List PyData} {i : Nat} (E : ER K x O (fun a o => Pn a o ∨ (a = p ∧ o = .lst xs)) gh (fun a => G a ∨ a = p) own σ H env) (hG : ¬ G p) (hP : ∀ o, ¬ Pn p o) (hS : ¬ x.S p) (gS : ∀ a, x.S a → G a)
    (r : RpAll K x.src (Fo (fun a => G a ∨ a = p) own) H xs ds) (hO : O i = true) : ER K x O Pn gh G (setOwn own i p) (σ.set i (some (.ref p))) H (env.set i (some (.list ds))) := by
  have hp : H p = some (.lst xs) := E.pin p _ (.inr ⟨rfl, rfl⟩)
  have np : ∀ j, own j ≠ some p := fun j z => (E.ownL j p z).2.1 (.inr rfl)
  have sub : ∀ a, Fo G (setOwn own i p) a → Fo (fun a => G a ∨ a = p) own a := fun a h => by
    rcases h with h | ⟨j, h⟩
    · exact .inl (.inl h)
    · by_cases hj : j = i
      · rw [hj, setOwn_self] at h; cases h; exact .inl (.inr rfl)
      · rw [setOwn_ne hj] at h; exact .inr ⟨j, h⟩
  have up : ∀ {v d}, Rp K x.src (Fo (fun a => G a ∨ a = p) own) H v d → Rp K x.src (Fo G (setOwn own i p)) H v d := fun r => r.sub fun a z => .inl (sub a z)
  have upA : ∀ {v d}, RpAll K x.src (Fo (fun a => G a ∨ a = p) own) H v d → RpAll K x.src (Fo G (setOwn own i p)) H v d := fun r => r.sub fun a z => .inl (sub a z)
  refine ⟨E.si, fun a o h => E.pin a o (.inl h), fun a o h => E.pinS a o (.inl h), gS, fun a h => E.gH a (.inl h), by simp [E.len], fun j q e => ?_, fun j l q e e' => ?_, fun v d hm => up (E.ghs v d hm), fun j d he => ?_⟩
  · by_cases hj : j = i
    · rw [hj, setOwn_self] at e; cases e
      exact ⟨by rw [hj]; exact hO, hG, hP, xs, hp⟩
    · rw [setOwn_ne hj] at e
      obtain ⟨h1, h2, h3, h4⟩ := E.ownL j q e
      exact ⟨h1, fun z => h2 (.inl z), fun o z => h3 o (.inl z), h4⟩
  · by_cases hj : j = i
    · by_cases hl : l = i
      · rw [hj, hl]
      · rw [hj, setOwn_self] at e; rw [setOwn_ne hl] at e'; cases e; exact absurd e' (np l)
    · by_cases hl : l = i
      · rw [setOwn_ne hj] at e; rw [hl, setOwn_self] at e'; cases e'; exact absurd e (np j)
      · rw [setOwn_ne hj] at e; rw [setOwn_ne hl] at e'; exact E.inj j l q e e'
  · by_cases hj : i = j
    · subst hj
      by_cases hl : i < env.length
      · rw [List.getElem?_set_self hl] at he
        cases he
        refine ⟨.ref p, by rw [List.getElem?_set_self (by rw [E.len]; exact hl)], ?_⟩
        rw [if_pos hO]
        exact .inl ⟨p, xs, ds, setOwn_self, rfl, rfl, hp, upA r⟩
      · rw [List.getElem?_eq_none (by simpa using hl)] at he; cases he
    · rw [List.getElem?_set_ne hj] at he
      obtain ⟨u, h1, h2⟩ := E.slot j d he
      refine ⟨u, by rw [List.getElem?_set_ne hj]; exact h1, ?_⟩
      split
      · rename_i hOj
        rw [if_pos hOj] at h2
        rw [setOwn_ne (fun z => hj z.symm)]
        exact h2.mono (fun q ys e hq => hq) fun ys es r => upA r
      · rename_i hOj
        rw [if_neg hOj] at h2
        exact up h2
end

def setAll (σ : L2.St) : List Nat → List V → L2.St
  | i :: is, v :: vs => (setAll σ is vs).set i (some v)
  | _, _ => σ
abbrev FP_ := Ev → (Ev → Prop) → Prop
/-- values laid down one by one, then put to the slots -/
def tFP (K : PySem.W.Frag) (x : Sx) (O : Nat → Bool) (is : List Nat) (f : FP_) : TA := fun σ H Q => ∃ Pn gh G own env P, ER K x O Pn gh G own σ H env ∧ f env P ∧
  ∀ env', P env' → ∀ vs H' own', vs.length = is.length → Keep x.S H H' → x.SI H' → ER K x O Pn gh G own' (setAll σ is vs) H' env' → Q vs H'
abbrev FP (x : Sx) (O : Nat → Bool) (X : Cx) (is : List Nat) (es : List Expr) (f : FP_) : Prop := PA X es (tFP X.K x O is f)
section
variable {X : Cx} {x : Sx} {O : Nat → Bool} {pos : Pos} {a b c e : Expr} {fa fb fc : FE_} {es : List Expr} {is : List Nat} {fp : FP_} {i : Nat}
def fpNil : FP_ := fun env P => P env
def fpE (i : Nat) (fa : FE_) (fp : FP_) : FP_ := fun env P => fa env fun d => fp env fun env' => P (env'.set i (some d))
def fpN (i : Nat) (f : FA_) (fp : FP_) : FP_ := fun env P => f env fun ds => fp env fun env' => P (env'.set i (some (.list ds)))
theorem fp_nil : FP x O X [] [] fpNil := pa_nil.imp fun σ H Q ⟨Pn, gh, G, own, env, P, E, q, k⟩ => k _ q _ H own rfl (Keep.refl _ _) E.si E
theorem fp_e (ha : FE x O X e fa) (hr : FP x O X is es fp) (hO : O i = false := by rfl) (hs : starEach (e :: es) X.env = (false, eval e X.env) :: starEach es X.env := by rfl) : FP x O X (i :: is) (e :: es) (fpE i fa fp) := (pa_cons ha hr hs).imp fun σ H Q ⟨Pn, gh, G, own, env, P, E, q, k⟩ => by
  refine ⟨Pn, gh, G, own, env, _, E, q, fun d q1 v H1 k1 s1 r1 => ?_⟩
  have E1 := (E.keep k1 s1).ghosts (gh' := (v, d) :: gh) fun v' d' hm => by
    rcases List.mem_cons.mp hm with hm | hm
    · cases hm; exact r1
    · exact (E.keep k1 s1).ghs v' d' hm
  refine ⟨Pn, _, G, own, env, _, E1, q1, fun env' q2 vs H2 own' hl k2 s2 E2 => ?_⟩
  have E3 := (E2.put hO (E2.ghs v d List.mem_cons_self)).ghosts (gh' := gh) fun v' d' hm => E2.ghs v' d' (List.mem_cons_of_mem _ hm)
  exact k _ q2 (v :: vs) H2 own' (by simp [hl]) (k1.trans k2) s2 E3
def fpT (i : Nat) (fa : FE_) (fp : FP_) : FP_ := fun env P => fa env fun d => fp env fun env' => (∀ ds, d ≠ .list ds) ∧ P (env'.set i (some d))
theorem fp_t (ha : FE x O X e fa) (hr : FP x O X is es fp) (hO : O i = true := by rfl) (hs : starEach (e :: es) X.env = (false, eval e X.env) :: starEach es X.env := by rfl) : FP x O X (i :: is) (e :: es) (fpT i fa fp) := (pa_cons ha hr hs).imp fun σ H Q ⟨Pn, gh, G, own, env, P, E, q, k⟩ => by
  refine ⟨Pn, gh, G, own, env, _, E, q, fun d q1 v H1 k1 s1 r1 => ?_⟩
  have E1 := (E.keep k1 s1).ghosts (gh' := (v, d) :: gh) fun v' d' hm => by
    rcases List.mem_cons.mp hm with hm | hm
    · cases hm; exact r1
    · exact (E.keep k1 s1).ghs v' d' hm
  refine ⟨Pn, _, G, own, env, _, E1, q1, fun env' q2 vs H2 own' hl k2 s2 E2 => ?_⟩
  have E3 := (E2.putT hO (E2.ghs v d List.mem_cons_self) q2.1).ghosts (gh' := gh) fun v' d' hm => E2.ghs v' d' (List.mem_cons_of_mem _ hm)
  exact k _ q2.2 (v :: vs) H2 own' (by simp [hl]) (k1.trans k2) s2 E3
theorem fp_n {f : FA_} (ha : FN x O X e f) (hr : FP x O X is es fp) (hO : O i = true := by rfl) (hs : starEach (e :: es) X.env = (false, eval e X.env) :: starEach es X.env := by rfl) : FP x O X (i :: is) (e :: es) (fpN i f fp) := (pa_cons ha hr hs).imp fun σ H Q ⟨Pn, gh, G, own, env, P, E, q, k⟩ => by
  refine ⟨Pn, gh, G, own, env, _, E, q, fun ds q1 p xs H1 k1 s1 hp0 hp r1 => ?_⟩
  have len := r1.length
  have El := E.lend k1 s1 hp0 hp
  have nS : ¬ x.S p := fun z => by
    obtain ⟨o', e', _⟩ := x.there H p E.si z
    rw [hp0] at e'; cases e'
  have nG : ¬ G p := fun z => by
    obtain ⟨o', e'⟩ := E.gH p z
    rw [hp0] at e'; cases e'
  have nP : ∀ o, ¬ Pn p o := fun o z => by
    have e' := E.pin p o z
    rw [hp0] at e'; cases e'
  have E1 := El.ghosts (gh' := xs.zip ds ++ gh) fun v' d' hm => by
    rcases List.mem_append.mp hm with hm | hm
    · exact (r1.zip_mem _ hm).sub fun a z => .inl (by
        rcases z with (z | z) | z
        · exact .inl (.inl z)
        · exact .inr z
        · exact .inl (.inr z))
    · exact El.ghs v' d' hm
  refine ⟨_, _, _, own, env, _, E1, q1, fun env' q2 vs H2 own' hl k2 s2 E2 => ?_⟩
  have r2 : RpAll X.K x.src (Fo (fun a => G a ∨ a = p) own') H2 xs ds := by
    have z := RpAll.of_mem (ps := xs.zip ds) fun q hq => E2.ghs q.1 q.2 (List.mem_append_left _ hq)
    rw [fst_zip len, map_snd_zip len] at z
    exact z
  have E3 := (E2.ghosts (gh' := gh) fun v' d' hm => E2.ghs v' d' (List.mem_append_right _ hm)).claim nG nP nS E.gS r2 hO
  exact k _ q2 (.ref p :: vs) H2 _ (by simp [hl]) (k1.trans k2) s2 E3
def gPar (fp : FP_) : FS_ := fun k env => fp env k.nx
variable {j l : Nat} {n1 n2 n3 : Str} {px py pz pt : Pos} {kt k2 : Nat} {pt2 : Pos}
theorem fs_par (hc : X.calm = true) (hN : X.N.Nodup) (ha : FP x O X [i, j] [a, b] fp) (hw : swappedStores [.Tuple [.Name n1 px, .Name n2 py] kt pt] (.Tuple [a, b] k2 pt2) X.env = pure (some [n1, n2])) (hij : i ≠ j := by decide) (hi : X.N[i]? = some n1 := by rfl) (hj : X.N[j]? = some n2 := by rfl)
    (hx : X.env.scope.names.lookup n1 = some .local := by rfl) (hy : X.env.scope.names.lookup n2 = some .local := by rfl)
    (hs : swapsWithSole [.Tuple [.Name n1 px, .Name n2 py] kt pt] (.Tuple [a, b] k2 pt2) pos.line X.env = pure false := by rfl) : FS x O X (.Assign [.Tuple [.Name n1 px, .Name n2 py] kt pt] (.Tuple [a, b] k2 pt2) pos) (gPar fp) :=
  (ps_par hc hN hi hj hij hx hy ha hw hs).imp fun D σ H ⟨Pn, gh, G, own, env, k, E, q, n1, n2, n3, n4⟩ => by
    refine ⟨Pn, gh, G, own, env, _, E, q, fun env' q1 vs H1 own' hl k1 s1 E1 => ?_⟩
    match vs, hl with
    | [v, w], _ =>
      have e : setAll σ [i, j] [v, w] = (σ.set i (some v)).set j (some w) := List.set_comm _ _ (Ne.symm hij)
      rw [e] at E1
      exact ⟨v, w, rfl, n1 _ q1 _ _ _ E1⟩
theorem fs_par3 (hc : X.calm = true) (hN : X.N.Nodup) (ha : FP x O X [i, j, l] [a, b, c] fp) (hw : swappedStores [.Tuple [.Name n1 px, .Name n2 py, .Name n3 pz] kt pt] (.Tuple [a, b, c] k2 pt2) X.env = pure (some [n1, n2, n3])) (hij : i ≠ j := by decide) (hil : i ≠ l := by decide) (hjl : j ≠ l := by decide)
    (hi : X.N[i]? = some n1 := by rfl) (hj : X.N[j]? = some n2 := by rfl) (hl' : X.N[l]? = some n3 := by rfl)
    (hx : X.env.scope.names.lookup n1 = some .local := by rfl) (hy : X.env.scope.names.lookup n2 = some .local := by rfl) (hz : X.env.scope.names.lookup n3 = some .local := by rfl)
    (hs : swapsWithSole [.Tuple [.Name n1 px, .Name n2 py, .Name n3 pz] kt pt] (.Tuple [a, b, c] k2 pt2) pos.line X.env = pure false := by rfl) :
    FS x O X (.Assign [.Tuple [.Name n1 px, .Name n2 py, .Name n3 pz] kt pt] (.Tuple [a, b, c] k2 pt2) pos) (gPar fp) :=
  (ps_par3 hc hN hi hj hl' hij hil hjl hx hy hz ha hw hs).imp fun D σ H ⟨Pn, gh, G, own, env, k, E, q, n1, n2, n3, n4⟩ => by
    refine ⟨Pn, gh, G, own, env, _, E, q, fun env' q1 vs H1 own' hl k1 s1 E1 => ?_⟩
    match vs, hl with
    | [v, w, u], _ =>
      have e : setAll σ [i, j, l] [v, w, u] = ((σ.set i (some v)).set j (some w)).set l (some u) := by
        show ((σ.set l (some u)).set j (some w)).set i (some v) = _
        rw [List.set_comm (i := l) (j := j) _ _ (Ne.symm hjl), List.set_comm (i := l) (j := i) _ _ (Ne.symm hil), List.set_comm (i := j) (j := i) _ _ (Ne.symm hij)]
      rw [e] at E1
      exact ⟨v, w, u, rfl, n1 _ q1 _ _ _ E1⟩

/-! ### any target -/
def gAsg (fe : FE_) (g : FG_) : FS_ := fun k env => fe env fun d => g d env k.nx
theorem fs_asg {tg : Expr} {g : FG_} {vs : List Nat} (he : FE x O X e fa) (hg : GW x O false vs X tg g) (hs : swapsWithSole [tg] e pos.line X.env = pure false := by rfl) (hw : swappedStores [tg] e X.env = pure none := by rfl)
    (h1 : (assignEach [tg] X.env).map (·.2) = [assign tg X.env] := by rfl) : FS x O X (.Assign [tg] e pos) (gAsg fa g) := (ps_asg he hg hs hw h1).imp fun D σ H ⟨Pn, gh, G, own, env, k, E, q, n1, n2, n3, n4⟩ =>
  ⟨Pn, gh, G, own, env, _, E, q, fun d q1 v H1 k1 s1 r1 => ⟨Pn, gh, G, own, env, d, _, E.keep k1 s1, r1, q1, fun env' q2 σ' E2 _ _ => n1 _ q2 _ _ _ E2⟩⟩

/-! ### xs.extend(ys) -/
variable {apos cpos npos : Pos} {nm : Str}
def gExtend (i : Nat) (fe : FE_) : FS_ := fun k env => match env[i]? with
  | some (some (.list ds)) => fe env fun d => match d with
    | .list es => ds.length + es.length ≤ 16777216 ∧ k.nx (env.set i (some (.list (ds ++ es))))
    | _ => False
  | _ => False
theorem fs_extend (he : FE x O X a fa) (hO : O i = true := by rfl) (hN : X.N[i]? = some nm := by rfl) (hv : Vis X.env.scope nm := by first | exact Or.inl rfl | exact Or.inr (Or.inl rfl) | exact Or.inr (Or.inr rfl))
    (hbase : attributeBase (.Name nm npos) "extend" X.env (eval (.Name nm npos) X.env) = eval (.Name nm npos) X.env := by rfl)
    (hfew : ((backTo cpos (starEach [a] X.env)).all (fun x => !x.1) && (backToKw cpos (keywordEach [] X.env)).all (fun x => x.1.isSome)
      && decide (([a] : List Expr).length + ([] : List Keyword).length + (if ([] : List Keyword).isEmpty then 0 else 1) < 30)) = true := by rfl)
    (hline : (apos.endLine == cpos.line) = true := by rfl) (hst : starEach [a] X.env = (false, eval a X.env) :: starEach [] X.env := by rfl) (hplain : (backTo cpos (starEach [] X.env)).any (·.1) = false := by rfl)
    (hd : (nm == ("__debug__" : Str)) = false := by decide) (hcd : (nm == ("__classdict__" : Str)) = false := by decide) (hs : swapsWith (.Call (.Attribute (.Name nm npos) "extend" apos) [a] [] cpos) none pos.line X.env = pure false := by rfl) :
    FS x O X (.Expr (.Call (.Attribute (.Name nm npos) "extend" apos) [a] [] cpos) pos) (gExtend i fa) :=
  (ps_expr (pe_bm PySem.F.plainAttrs_list PySem.F.slot_list_extend PySem.F.type_list_extend mt_extend (pe_var hN hv hd hcd) (pa_cons he pa_nil hst) hbase hfew hline hst hplain) hs).imp fun D σ H ⟨Pn, gh, G, own', env, k, E, q, n1, n2, n3, n4⟩ => by
    unfold gExtend at q
    split at q
    · rename_i ds ed
      obtain ⟨p, xs, ds', ho, hσ, e2, hp, r⟩ := own_slot E hO ed
      cases e2
      refine ⟨.ref p, hσ, .inl ⟨rfl, _, SqL.of hp⟩, Pn, gh, G, own', env, _, E, q, fun d q1 w H1 k1 s1 r1 => ?_⟩
      have nS : ¬ x.S p := fun z => (E.ownL i p ho).2.1 (E.gS p z)
      have E1 := E.keep k1 s1
      have hp1 := k1 p _ hp nS
      have r2 := E.rpAll k1 r
      split at q1
      · cases r1 with
        | lst hq nF rq => exact ⟨p, _, xs, _, rfl, rfl, hp1, hq, line_ok (by rw [r.length, rq.length]; exact q1.1), n1 _ q1.2 _ _ _ (E1.write ho hσ hp1 (r2.append rq))⟩
      · exact q1.elim
    · exact q.elim
end
end FL

/-! F12: the end of a row: the law's def is called by the claim's caller, with no marks around it. -/
namespace FL
open PySem PySem.Spec PyProof.Rows L2

/-- the law's promise at the heap behind the top -/
theorem call_lawG {P : Program} {w : World} {K : PySem.W.Frag} {mg mb : Str → Option Value} {k : Nat} {fa a : Addr} {fd : FuncData} {y : Str} {sp : Sp} {s : Shared} {us : List Value} {ns : List Int}
    (inK : K.In s.heap) (glob : s.heap.Ns mainGlobals mg) (blt : s.heap.Ns builtinsNs mb) (boot : ∀ x : Str, x ≠ "__name__" → mb x = bootBuiltins x) (lim : s.heap.NoLimit) (gens : s.gens = #[])
    (at_a : s.heap.get? a = some { cls := .type "list", data := .seq us.toArray }) (isI : IntsAre us ns) (short : ns.length ≤ sizeLine) (room : Room k callerA)
    (F : ∀ base : Heap, K.In base → base.Ns mainGlobals mg → FnG P w K mg base k fa fd [y] sp) (bind : ∀ (s : Shared) (u : Value), BindsTo s fd ⟨[u], []⟩ [(y, u)])
    (promise : ∀ H : Hp, SqL K H a (ns.map V.int) → sp [.ref a] H (fun v _ => v = .bl true) fun _ _ _ => False) :
    codeAny (model P w) callerA (.call (.ref fa) ⟨[.ref a], []⟩) (fun r s' => r = .ok (.ret (.bool true)) ∧ OldK s.heap s'.heap ∧ s'.os = s.os ∧ AllBare s'.gens) s := by
  have rv := vals_ints isI
  have lu := isI.length
  have main : ∀ H : Hp, (∀ b, H b = none ∨ (b = a ∧ ∃ o xs, H b = some (.frz o (.lst xs)))) → SqL K H a (ns.map V.int) → HOk P w H s.heap → (H a ≠ none → K.lookup a = none) →
      codeAny (model P w) callerA (.call (.ref fa) ⟨[.ref a], []⟩) (fun r s' => r = .ok (.ret (.bool true)) ∧ OldK s.heap s'.heap ∧ s'.os = s.os ∧ AllBare s'.gens) s := by
    intro H only seq hok notK
    have dictNone : ∀ {b : Addr} {o : Obj} {es : Array DictEntry} {ep : Nat}, s.heap.get? b = some o → o.data = .dict es ep → H b = none := by
      intro b o es ep e d
      rcases only b with z | ⟨z, _⟩
      · exact z
      · rw [z, at_a] at e
        cases e
        exact nomatch (show Data.seq us.toArray _ = Data.dict es ep from d)
    have nsUp : ∀ {b : Addr} {m : Str → Option Value}, s.heap.Ns b m → (hidT s.heap H).Ns b m := by
      rintro b m ⟨o, es, ep, e, d, r⟩
      exact ⟨o, es, ep, hidT_get e (dictNone e d), d, r⟩
    have inK2 : K.In (hidT s.heap H) := fun b o e => hidT_get (inK b o e) (by
      rcases only b with z | ⟨z, u, xs, e2⟩
      · exact z
      · subst z
        rw [notK (by rw [e2]; simp)] at e; cases e)
    have lim2 : (hidT s.heap H).NoLimit := by
      obtain ⟨mc, h1, h2⟩ := lim
      exact ⟨mc, nsUp h1, h2⟩
    have start : Env0 P w K mg (hidT s.heap H) callerA [] s H := ⟨rfl, ⟨inK2, nsUp glob, ⟨mb, nsUp blt, boot⟩, lim2⟩, fun b o e => of_hidT e, Nat.le_of_eq (hidT_size _ _), trivial, fun b z => absurd (show b ∈ ([] : List Addr) from z) (by simp), hok, .of_eq gens⟩
    refine codeAny_mono ((F _ inK2 (nsUp glob)).run callerA [] s H ⟨[.ref a], []⟩ [.ref a] [.ref a] _ _ rfl room start (bind s (.ref a)) (.cons rfl .nil) (promise H seq)) ?_
    rintro (_ | _ | _ | _ | u) s' h
    · exact False.elim h
    · exact False.elim h
    · exact False.elim h
    · exact False.elim h
    · obtain ⟨v, H', os, bare, un, hok', r', q⟩ := h
      have q2 : v = .bl true := q
      subst q2
      have ru : u = Value.bool true := r'
      subst ru
      refine ⟨rfl, OldK.of_keep fun b o e => ?_, os, bare⟩
      rcases only b with z | ⟨rfl, ob, xs, z⟩
      · exact un.keep b o e z (by intro z; exact absurd (show b ∈ ([] : List Addr) from z) (by simp)) (by simp)
      · obtain ⟨e1, _⟩ := hok b _ z
        obtain ⟨e2, _⟩ := hok' b _ (un.frzs b ob _ z)
        rw [e] at e1
        cases e1
        exact e2
  by_cases hk : ∃ o, K.lookup a = some o
  · obtain ⟨o, hk⟩ := hk
    have e := inK a o hk
    rw [at_a] at e
    cases e
    exact main (fun _ => none) (fun _ => .inl rfl) (.inr ⟨_, us.toArray, _, hk, rfl, rfl, rfl, by rw [List.size_toArray, lu]; exact short, by simpa using rv⟩) (fun b u z => nomatch (show (none : Option HO) = some u from z)) fun z => absurd rfl z
  · have hk : K.lookup a = none := by
      cases q : K.lookup a with
      | none => rfl
      | some o => exact absurd ⟨o, q⟩ hk
    let H0 : Hp := fun b => if b = a then some (.frz { cls := .type "list", data := .seq us.toArray } (.lst (ns.map V.int))) else none
    have Ha : H0 a = some (.frz { cls := .type "list", data := .seq us.toArray } (.lst (ns.map V.int))) := if_pos rfl
    have Hn : ∀ {b}, b ≠ a → H0 b = none := fun h => if_neg h
    refine main H0 (fun b => ?_) (.inl (.inr ⟨_, Ha⟩)) (fun b u z => ?_) fun _ => hk
    · by_cases hb : b = a
      · subst hb; exact .inr ⟨rfl, _, _, Ha⟩
      · exact .inl (Hn hb)
    · by_cases hb : b = a
      · subst hb
        rw [Ha] at z
        cases z
        exact ⟨at_a, by rw [List.length_map]; exact short, us, _, rv, at_a⟩
      · rw [Hn hb] at z; cases z
/-- the goal that the head leaves -/
theorem walkG {l : PySem.W.OpenLaw} {n k : Nat} {q : Program} {loose : List Str} {XP : (Str → Option Value) → Heap → Prop} {YP : World → Heap → Prop} {d : DefRec} {K : Params → PySem.W.Frag} {sp : World → Sp} {x : Str}
    (hn : l.most = some n) (hn2 : n ≤ sizeLine) (hdf : d.params.defaults = []) (hr : Room k callerA)
    (hY : ∀ (w : World) (h : Heap), YP w h → (K w.params).In h)
    (F : ∀ (w : World) (mg : Str → Option Value) (fa : Addr) (h : Heap), (K w.params).In h → h.Ns mainGlobals mg → mg d.name = some (.ref fa) →
      ∃ fd : FuncData, (∀ (s : Shared) (u : Value), BindsTo s fd ⟨[u], []⟩ [(x, u)]) ∧
        ∀ base : Heap, (K w.params).In base → base.Ns mainGlobals mg → FnG l.prog w (K w.params) mg base k fa fd [x] (sp w))
    (hsp : ∀ (w : World) (H : Hp) (a : Addr) (ns : List Int), ns.length ≤ n → SqL (K w.params) H a (ns.map V.int) → sp w [.ref a] H (fun v _ => v = .bl true) fun _ _ _ => False) :
    PySem.W.WalkO q loose XP YP l.row.toRowW d [] (fun f vs => PySem.call f vs) := by
  refine Att.attach_call hn hdf fun w s₀ s₁ mg mb fa o pm cd doc a vs ns G Y ho hd hcd hmg hobj hints hlen hg => ?_
  have KX := hY w _ Y
  obtain ⟨fd, hb, hF⟩ := F w mg fa _ KX G.T.g hmg
  exact call_lawG KX G.T.g G.T.b G.T.builtins G.T.nolimit hg hobj hints (Nat.le_trans hlen hn2) hr hF hb fun H hS => hsp w H a ns hlen hS

/-! ### the law's def -/
/-- the law gives True -/
def spTrue (K : PySem.W.Frag) : Sp := fun vs H Q _ => ∃ (a : Addr) (ns : List Int), vs = [.ref a] ∧ SqL K H a (ns.map V.int) ∧ ns.length ≤ 63 ∧ ∀ H', Q (.bl true) H'
end FL

/-! F13: the source of a law's numbers: what holds of it. -/
namespace FL
open PySem PySem.Spec PyProof.Rows L2
def srcK (c : Addr) (l m t : Int) : List (Key × V) := [(.inr "cells", .ref c), (.inr "left", .int l), (.inr "mixed", .int m), (.inr "turn", .int t)]
/-- the source: its dict at s, its cells at c -/
def sx (s c : Addr) : Sx where
  src := some s
  S := fun a => a = s ∨ a = c
  SI := fun H => s ≠ c ∧ ∃ (l m t : Int) (ns : List Int), H s = some (.dK (srcK c l m t)) ∧ H c = some (.lst (ns.map V.int))
  keep := fun H H' ⟨hn, l, m, t, ns, h1, h2⟩ k => ⟨hn, l, m, t, ns, by rw [k s (.inl rfl)]; exact h1, by rw [k c (.inr rfl)]; exact h2⟩
  srcS := fun a h => by cases h; exact .inl rfl
  there := fun H a ⟨hn, l, m, t, ns, h1, h2⟩ h => by
    rcases h with rfl | rfl
    · exact ⟨_, h1, fun xs z => by (cases z), fun ob u z => by (cases z)⟩
    · exact ⟨_, h2, fun xs z => by (cases z), fun ob u z => by (cases z)⟩
def pickD : S1_ := fun ds P => ∃ m : Int, ds = [srcD, .int m] ∧ m < 1073741824 ∧ ∀ r : Int, (m < 2 → r = 0) → (2 ≤ m → 0 ≤ r ∧ r < m) → P (.int r)
theorem get_left {H : Hp} {s c : Addr} {l m t : Int} (h : H s = some (.dK (srcK c l m t))) : DGet H s (.str "left") (some (.int l)) := DGet.k (k := .inr "left") h
theorem get_cells {H : Hp} {s c : Addr} {l m t : Int} (h : H s = some (.dK (srcK c l m t))) : DGet H s (.str "cells") (some (.ref c)) := DGet.k (k := .inr "cells") h
theorem get_mixed {H : Hp} {s c : Addr} {l m t : Int} (h : H s = some (.dK (srcK c l m t))) : DGet H s (.str "mixed") (some (.int m)) := DGet.k (k := .inr "mixed") h
theorem get_turn {H : Hp} {s c : Addr} {l m t : Int} (h : H s = some (.dK (srcK c l m t))) : DGet H s (.str "turn") (some (.int t)) := DGet.k (k := .inr "turn") h
theorem put_left {H : Hp} {s c : Addr} {l m t i : Int} (h : H s = some (.dK (srcK c l m t))) : DPut H s (.str "left") (.int i) (upd H s (.dK (srcK c i m t))) := DPut.k (k := .inr "left") h (by show 4 < sizeLine; rw [sizeLine_eq]; decide)
theorem put_turn {H : Hp} {s c : Addr} {l m t i : Int} (h : H s = some (.dK (srcK c l m t))) : DPut H s (.str "turn") (.int i) (upd H s (.dK (srcK c l m i))) := DPut.k (k := .inr "turn") h (by show 4 < sizeLine; rw [sizeLine_eq]; decide)
theorem keep_s {s c : Addr} {H : Hp} {o : HO} : Keep (sx s c).S H (upd H s o) := fun a u e n => by
  rw [upd_ne (fun z => n (.inl z))]; exact e
theorem keep_c {s c : Addr} {H : Hp} {o : HO} : Keep (sx s c).S H (upd H c o) := fun a u e n => by
  rw [upd_ne (fun z => n (.inr z))]; exact e
theorem and_read {tA tB : TT} {σ : L2.St} {H : Hp} {Q : Bool → Hp → Prop} (b1 b2 : Bool) (h1 : ∀ Q : Bool → Hp → Prop, Q b1 H → tA σ H Q) (h2 : ∀ Q : Bool → Hp → Prop, Q b2 H → tB σ H Q) (q : Q (b1 && b2) H) : tAnd tA tB σ H Q := by
  refine h1 _ ?_
  cases b1 with
  | true => exact iteT (h2 _ q)
  | false => exact iteF q
theorem pos_lit1 : (0 : Int) < 998244353 := by decide
theorem pos_lit2 : (0 : Int) < 2147483647 := by decide
theorem hu64 {X : Cx} {k : Nat} (hr : Room k X.A) : X.A.units + 67 < cLine := by
  have := hr.un
  omega
/-- V-level promise -/
def spPick (K : PySem.W.Frag) (s c : Addr) : Sp := fun vs H Q _ => ∃ m : Int, vs = [.ref s, .int m] ∧ (sx s c).SI H ∧ m < 1073741824 ∧ ∀ (r : Int) (H' : Hp), (m < 2 → r = 0) → (2 ≤ m → 0 ≤ r ∧ r < m) → (sx s c).SI H' → Keep (sx s c).S H H' → Q (.int r) H'
theorem pos_lit3 : (0 : Int) < 2147483629 := by decide
def spOpen (K : PySem.W.Frag) : Sp := fun vs H Q _ => ∃ (a : Addr) (ns : List Int), vs = [.ref a] ∧ SqL K H a (ns.map V.int) ∧ ns.length ≤ 63 ∧ ∀ s c H', H s = none → H c = none → (sx s c).SI H' → Same H H' → Q (.ref s) H'
def anyD : S1_ := fun ds P => ∃ xs : List PyData, ds = [srcD, .list xs] ∧ xs.length < 1000000 ∧ ∀ ys, ys.Perm xs → P (.list ys)
theorem rp_src {K : PySem.W.Frag} {s c : Addr} {F : Addr → Prop} {H : Hp} {v : V} (h : Rp K (sx s c).src F H v srcD) : v = .ref s := by
  cases h with
  | src h => cases h; rfl
theorem seqIx {j : Int} {n : Nat} (h0 : 0 ≤ j) (h1 : j < n) : seqIndex? j n = some j.toNat := seqIndex_of h0 (by omega)
theorem perm_move {α : Type} {l acc : List α} {k : Nat} (h : k < l.length) : (acc ++ [l[k]] ++ l.eraseIdx k).Perm (acc ++ l) := by
  rw [List.append_assoc]
  refine List.Perm.append_left acc ?_
  have e : l = l.take k ++ l[k] :: l.drop (k + 1) := by
    rw [← List.drop_eq_getElem_cons h, List.take_append_drop]
  have e2 : l.eraseIdx k = l.take k ++ l.drop (k + 1) := List.eraseIdx_eq_take_drop_succ l k
  rw [e2]
  conv => rhs; rw [e]
  exact (List.perm_middle (l₁ := l.take k) (a := l[k])).symm
theorem erase_map {α β : Type} (f : α → β) : ∀ (l : List α) (k : Nat), (l.map f).eraseIdx k = (l.eraseIdx k).map f
  | [], _ => rfl
  | _ :: _, 0 => rfl
  | x :: r, k + 1 => by simp [erase_map f r k]

theorem pick_up {P : Program} {w : World} {K : PySem.W.Frag} {mg : Str → Option Value} {base : Heap} {k : Nat} {s c : Addr} (h : Cal P w K mg base k "_law_pick" (spPick K s c)) : Cal P w K mg base k "_law_pick" (spF K (sx s c) pickD) :=
  h.imp fun vs H Q E ⟨G, ds, Pd, si, gS, gH, r, ⟨m, ed, hm, q⟩, kk⟩ => by
    subst ed
    obtain ⟨v, u, rfl, r1, r2⟩ := rpa2 r
    have e1 := rp_src r1
    subst e1
    cases r2
    exact ⟨m, rfl, si, hm, fun r H' h1 h2 si' k => kk _ (q r h1 h2) _ H' k si' (.int r)⟩
/-- behind the source's making -/
def tSrc (K : PySem.W.Frag) (O : Nat → Bool) (g : FS_) : TS := fun D σ H => ∃ s c, tFS K (sx s c) O g D σ H
theorem pss_src {X : Cx} {O : Nat → Bool} {g : FS_} {rest : List Stmt} (h : ∀ s c, FSs (sx s c) O X rest g) : PSs X rest (tSrc X.K O g) :=
  ⟨fun pins s σ H D I ⟨a, c, q⟩ => (h a c).run pins s σ H D I q⟩
theorem law_start {K : PySem.W.Frag} {O : Nat → Bool} {g : FS_} {D : Ends} {n : Nat} {a s c : Addr} {H : Hp} (hO : O 1 = false) (si : (sx s c).SI H) (hD : ∀ H', D.rt (.bl true) H') (hg : g { nx := fun _ => False, rt := fun d => d = .bool true } (none :: some srcD :: List.replicate n none)) :
    tSrc K O g D (some (.ref a) :: some (.ref s) :: List.replicate n none) H := by
  refine ⟨s, c, fun _ _ => False, [], (sx s c).S, fun _ => none, _, _, ?_, hg, fun _ z => z.elim, fun d e v H' _ _ r => ?_, fun _ z => z.elim, fun _ z => z.elim⟩
  · refine ⟨si, fun _ _ z => z.elim, fun _ _ z => z.elim, fun _ z => z, fun b z => ?_, by simp, fun i p z => (nomatch z), fun i j p z _ => (nomatch z), fun v d z => (nomatch z), fun i d e => ?_⟩
    · obtain ⟨o, e, _⟩ := (sx s c).there H b si z
      exact ⟨o, e⟩
    · match i, e with
      | 0, e => cases e
      | 1, e =>
        have e' : srcD = d := Option.some.inj (Option.some.inj e)
        subst e'
        exact ⟨.ref s, rfl, by rw [if_neg (by rw [hO]; exact Bool.false_ne_true)]; exact .src rfl⟩
      | i + 2, e =>
        rw [List.getElem?_cons_succ, List.getElem?_cons_succ, List.getElem?_replicate] at e
        split at e <;> cases e
  · subst e
    cases r
    exact hD H'
end FL

/-! F14: what the printed derivations name. -/
namespace FL
open PySem PySem.Spec PyProof.Rows L2
theorem bt_len : bootBuiltins "len" = some (.builtin "len") := by decide +kernel
theorem bt_abs : bootBuiltins "abs" = some (.builtin "abs") := by decide +kernel
theorem bt_sum : bootBuiltins "sum" = some (.builtin "sum") := by decide +kernel
theorem bt_all : bootBuiltins "all" = some (.builtin "all") := by decide +kernel
theorem bt_any : bootBuiltins "any" = some (.builtin "any") := by decide +kernel
theorem bt_max : bootBuiltins "max" = some (.builtin "max") := by decide +kernel
theorem bt_min : bootBuiltins "min" = some (.builtin "min") := by decide +kernel
theorem bt_repr : bootBuiltins "repr" = some (.builtin "repr") := by decide +kernel
theorem bt_sorted : bootBuiltins "sorted" = some (.builtin "sorted") := by decide +kernel
theorem bt_int : bootBuiltins "int" = some (.type "int") := by decide +kernel
theorem bt_list : bootBuiltins "list" = some (.type "list") := by decide +kernel
theorem bt_tuple : bootBuiltins "tuple" = some (.type "tuple") := by decide +kernel
section
variable {X : Cx} {x : Sx} {O : Nat → Bool} {k : Nat} {pos : Pos} {a b : Expr} {fa fb : FE_}
theorem hq64 {A : Around} (hr : Room k A) : A.units + 64 < cLine := by have := hr.un; omega
theorem hq65 {A : Around} (hr : Room k A) : A.units + 65 < cLine := by have := hr.un; omega
theorem hq67 {A : Around} (hr : Room k A) : A.units + 67 < cLine := by have := hr.un; omega
/-- new lists by + and * -/
def fCatN (fa fb : FE_) : FA_ := fun env P => fa env fun d => fb env fun e => match d, e with
  | .list xs, .list ys => xs.length + ys.length ≤ 16777216 ∧ P (xs ++ ys)
  | _, _ => False
def fRepN (fa fb : FE_) : FA_ := fun env P => fa env fun d => fb env fun e => match d, e with
  | .list xs, .int k => (-(2 ^ 63) ≤ k ∧ k < 2 ^ 63 ∧ xs.length * k.toNat ≤ 16777216) ∧ P (List.replicate k.toNat xs).flatten
  | _, _ => False
theorem fn_cat (ha : FB x O X a fa) (hb : FB x O X b fb) : FN x O X (.BinOp a .Add b pos) (fCatN fa fb) := (pe_op op_cat ha hb).imp fun σ H Q ⟨Pn, gh, G, own, env, P, E, q, k⟩ => by
  refine ⟨Pn, gh, G, own, env, _, E, q, fun d q1 v H1 k1 s1 r1 => ?_⟩
  have E1 := E.keep k1 s1
  refine ⟨Pn, gh, G, own, env, _, E1, q1, fun e q2 w H2 k2 s2 r2 => ?_⟩
  have r1' := E1.rpB k2 r1
  split at q2
  · obtain ⟨p, xs, rfl, hp, r⟩ := r1'.lst
    obtain ⟨p', xs', rfl, hp', r'⟩ := r2.lst
    exact ⟨p, p', xs, xs', rfl, rfl, hp, hp', line_ok (by rw [r.length, r'.length]; exact q2.1), fun q hq => k _ q2.2 q _ _ ((k1.trans k2).trans (Keep.upd hq)) (x.updN s2 hq) (Keep.none E.si s2 (k1.trans k2) hq) upd_same (rpAll_new hq (r.append r'))⟩
  · exact q2.elim
theorem fn_rep (ha : FB x O X a fa) (hb : FB x O X b fb) : FN x O X (.BinOp a .Mult b pos) (fRepN fa fb) := (pe_op op_rep ha hb).imp fun σ H Q ⟨Pn, gh, G, own, env, P, E, q, k⟩ => by
  refine ⟨Pn, gh, G, own, env, _, E, q, fun d q1 v H1 k1 s1 r1 => ?_⟩
  have E1 := E.keep k1 s1
  refine ⟨Pn, gh, G, own, env, _, E1, q1, fun e q2 w H2 k2 s2 r2 => ?_⟩
  have r1' := E1.rpB k2 r1
  split at q2
  · obtain ⟨p, xs, rfl, hp, r⟩ := r1'.lst
    exact ⟨p, _, xs, rfl, r2.int, hp, q2.1.1, q2.1.2.1, line_ok (by rw [r.length]; exact q2.1.2.2), fun q hq => k _ q2.2 q _ _ ((k1.trans k2).trans (Keep.upd hq)) (x.updN s2 hq) (Keep.none E.si s2 (k1.trans k2) hq) upd_same (rpAll_new hq (r.rep _))⟩
  · exact q2.elim
end
/-- += of ints -/
def sAddI : S2_ := fun d e P => match d, e with
  | .int i, .int j => P (.int (i + j))
  | _, _ => False
theorem s_addI {X : Cx} {x : Sx} : Op2 X x (ipI fun i j => i + j) sAddI := by
  intro F H v w d e P Q si hS hF rv rw_ h k
  unfold sAddI at h
  split at h
  · exact ⟨_, _, rv.int, rw_.int, k _ h _ H (Same.refl H) (.int _)⟩
  · exact h.elim
theorem dn_mk {K : PySem.W.Frag} {h : Heap} {mg : Str → Option Value} {x : Str} {st : Stmt} {ps : List Str} {f : Addr} {od an : Option Addr} {sl : Array (Option Value)} {oc kV dc pm cd ct : Value} (I : K.In h) (G : h.Ns mainGlobals mg)
    (a : PySem.W.nsIn K mainGlobals x = some (some (.ref f))) (l : K.lookup f = some ⟨oc, od, .func (PySem.W.fnOf x x (defArgs st) (defBody st) (defScope st) .none kV dc pm an cd ct), sl⟩) (c : PySem.W.codeIn K cd x = true) (k : PySem.W.keepIn K (.ref f) = true)
    (hb : ∀ (kV doc pm : Value) (an : Option Addr) (cdv ct : Value) (us : List Value), us.length = ps.length → bindArgs (PySem.W.fnOf x x (defArgs st) (defBody st) (defScope st) .none kV doc pm an cdv ct) ⟨us, []⟩ = pure (ps.zip us)) : Dn K mg x st ps :=
  ⟨f, _, fun_mk (st := st) l c k, PySem.W.mg_of I G a, (fun_mk (st := st) l c k).binds hb⟩
/-- a bool read of two ints -/
theorem eqv_int (i j : Int) : PyData.eqv (.int i) (.int j) = decide (i = j) := by
  first
    | rfl
    | simp [PyData.eqv]
end FL

/-! F15: how readings are evaluated. -/
namespace FL
open PySem PySem.Spec PyProof.Rows L2

/-- a comprehension, item by item -/
theorem compL_go {α : Type} {g : FG_} {ft : FT_} {fe : FE_} {env : Ev} (enc : α → PyData) (p : α → Bool) (f : α → PyData) : ∀ (xs : List α) (P : List PyData → Prop),
    (∀ a ∈ xs, ∀ (A : PyData → Prop) (B : Prop), (p a = true → A (f a)) → (p a = false → B) → g (enc a) env fun env1 => ft env1 fun b => match b with | true => fe env1 A | false => B) →
    P ((xs.filter p).map f) → fCompL g ft fe env (xs.map enc) P
  | [], P, _, q => q
  | a :: r, P, h, q => by
    rw [List.map_cons]
    unfold fCompL
    refine h a List.mem_cons_self (fun y => fCompL g ft fe env (r.map enc) fun ys => P (y :: ys)) (fCompL g ft fe env (r.map enc) P) (fun e => ?_) (fun e => ?_)
    · refine compL_go enc p f r _ (fun b hb => h b (List.mem_cons_of_mem _ hb)) ?_
      rw [List.filter_cons_of_pos e, List.map_cons] at q
      exact q
    · refine compL_go enc p f r _ (fun b hb => h b (List.mem_cons_of_mem _ hb)) ?_
      rw [List.filter_cons_of_neg (by rw [e]; exact Bool.false_ne_true)] at q
      exact q
/-- .. with no condition -/
theorem compL_map {α : Type} {g : FG_} {fe : FE_} {env : Ev} (enc : α → PyData) (f : α → PyData) : ∀ (xs : List α) (P : List PyData → Prop),
    (∀ a ∈ xs, ∀ A : PyData → Prop, A (f a) → g (enc a) env fun env1 => fe env1 A) → P (xs.map f) → fCompL g fYes fe env (xs.map enc) P
  | [], P, _, q => q
  | a :: r, P, h, q => by
    rw [List.map_cons]
    unfold fCompL
    exact h a List.mem_cons_self _ (compL_map enc f r _ (fun b hb => h b (List.mem_cons_of_mem _ hb)) q)
/-- .. whose items may be any that fit -/
theorem compL_any {α : Type} {g : FG_} {fe : FE_} {env : Ev} (enc : α → PyData) (R : α → PyData → Prop) : ∀ (xs : List α) (P : List PyData → Prop),
    (∀ a ∈ xs, ∀ A : PyData → Prop, (∀ y, R a y → A y) → g (enc a) env fun env1 => fe env1 A) → (∀ ys : List PyData, ys.length = xs.length → (∀ i (h : i < xs.length) (h2 : i < ys.length), R xs[i] ys[i]) → P ys) → fCompL g fYes fe env (xs.map enc) P
  | [], P, _, q => q [] rfl (fun i h => absurd h (Nat.not_lt_zero _))
  | a :: r, P, h, q => by
    rw [List.map_cons]
    unfold fCompL
    refine h a List.mem_cons_self _ fun y hy => compL_any enc R r _ (fun b hb => h b (List.mem_cons_of_mem _ hb)) fun ys hl hr => q (y :: ys) (by simp [hl]) fun i h1 h2 => ?_
    cases i with
    | zero => exact hy
    | succ i => exact hr i (by simpa using h1) (by simpa using h2)
/-- a loop by what holds ahead of the items left -/
theorem loop_go {α : Type} {g : FG_} {gb : FS_} {k : FK} (enc : α → PyData) (I : List α → Ev → Prop)
    (step : ∀ a r env, I (a :: r) env → ∀ k' : Ev → Prop, (∀ env', I r env' → k' env') → g (enc a) env fun env1 => gb { nx := k', rt := k.rt, bk := k.nx, ct := k' } env1)
    (fin : ∀ env, I [] env → k.nx env) : ∀ (xs : List α) (env : Ev), I xs env → fLoop g gb k (xs.map enc) env
  | [], env, h => fin env h
  | a :: r, env, h => by
    rw [List.map_cons]
    unfold fLoop
    exact step a r env h _ fun env' h' => loop_go enc I step fin r env' h'
theorem range_enc (lo : Int) (n : Nat) : rangeD lo n = (List.range n).map fun i => PyData.int (lo + (i : Nat)) := rfl
def nums (ns : List Int) : List PyData := ns.map PyData.int
theorem enum_enc {α : Type} (enc : α → PyData) (xs : List α) : enumD (xs.map enc) = xs.zipIdx.map fun p => PyData.tuple [.int (p.2 : Nat), enc p.1] := by
  apply List.ext_getElem?
  intro i
  unfold enumD
  rw [List.getElem?_zipWith, List.getElem?_map, List.getElem?_map, List.getElem?_zipIdx, List.length_map]
  by_cases h : i < xs.length
  · rw [List.getElem?_range h, List.getElem?_eq_getElem h]
    simp
  · rw [List.getElem?_eq_none (by simpa using h), List.getElem?_eq_none (by omega : xs.length ≤ i)]
    rfl
theorem zip_enc {α β : Type} (e1 : α → PyData) (e2 : β → PyData) : ∀ (xs : List α) (ys : List β), zipD (xs.map e1) (ys.map e2) = (xs.zip ys).map fun p => PyData.tuple [e1 p.1, e2 p.2]
  | [], _ => by simp [zipD]
  | _ :: _, [] => by simp [zipD]
  | x :: xs, y :: ys => by
    have := zip_enc e1 e2 xs ys
    unfold zipD at this ⊢
    simp [this]
theorem nums_len (ns : List Int) : (nums ns).length = ns.length := List.length_map ..
theorem intsOf_nums (ns : List Int) : intsOf (nums ns) = some ns := intsOf_map ns
theorem ixN_nat {n i : Nat} (h : i < n) : ixN n (i : Int) = some i := by
  unfold ixN
  simp [h]
theorem atI_nums {ns : List Int} {i : Nat} (h : i < ns.length) : atI (nums ns) (i : Int) = some (.int (ns.getD i 0)) := by
  unfold atI nums
  rw [List.length_map, ixN_nat h]
  simp [List.getD, List.getElem?_eq_getElem h]
/-- nums in a row do fit -/
theorem canLay_nums : ∀ ns : List Int, PyData.canLayAll0 (nums ns) = true
  | [] => rfl
  | n :: r => by
    show (PyData.canLay0 (.int n) && PyData.canLayAll0 (nums r)) = true
    rw [canLay_nums r]; rfl
theorem depth_nums : ∀ ns : List Int, PyData.depthAll (nums ns) = 0
  | [] => rfl
  | n :: r => by
    show max (PyData.depth (.int n)) (PyData.depthAll (nums r)) = 0
    rw [depth_nums r]; rfl
end FL

/-! F16: ints in rows. -/
namespace FL
open PySem PySem.Spec PyProof.Rows L2
theorem at1 {ns : List Int} {i : Nat} (h : i < ns.length) {j : Int} (e : j = i) : atI (nums ns) j = some (.int (ns.getD i 0)) := by rw [e]; exact atI_nums h
theorem drop_range {n j a : Nat} {r : List Nat} (h : (List.range n).drop j = a :: r) : a = j ∧ j < n ∧ (List.range n).drop (j + 1) = r := by
  by_cases hj : j < n
  · rw [List.drop_eq_getElem_cons (by simpa using hj)] at h
    cases h
    exact ⟨by simp, hj, rfl⟩
  · rw [List.drop_of_length_le (by simpa using hj)] at h
    cases h
theorem drop_range_nil {n j : Nat} (h : (List.range n).drop j = []) : n ≤ j := by
  by_cases hj : j < n
  · rw [List.drop_eq_getElem_cons (by simpa using hj)] at h
    cases h
  · omega
theorem drop_zip {code : List Int} {j : Nat} {a : Int × Nat} {r : List (Int × Nat)} (h : code.zipIdx.drop j = a :: r) : ∃ hj : j < code.length, a = (code[j], j) ∧ code.zipIdx.drop (j + 1) = r := by
  by_cases hj : j < code.length
  · rw [List.drop_eq_getElem_cons (by simpa using hj)] at h
    cases h
    exact ⟨hj, by simp, rfl⟩
  · rw [List.drop_of_length_le (by simpa using hj)] at h
    cases h
theorem drop_zip_nil {code : List Int} {j : Nat} (h : code.zipIdx.drop j = []) : code.length ≤ j := by
  by_cases hj : j < code.length
  · rw [List.drop_eq_getElem_cons (by simpa using hj)] at h
    cases h
  · omega
theorem cut_drop (ns : List Int) {i : Nat} (h : i ≤ ns.length) : cutD (nums ns) (some (i : Int)) none = nums (ns.drop i) := by
  unfold cutD nums
  rw [HT.sIx_nat, HT.sIx_none, List.length_map, Nat.min_eq_left h, ← List.map_drop, List.take_of_length_le (by rw [List.length_map, List.length_drop]; omega)]
theorem nums_filter (ns : List Int) (p : Int → Bool) : (ns.filter p).map PyData.int = nums (ns.filter p) := rfl
theorem fit_int (i : Int) : Fit (.int i) := rfl
theorem fit_nums (ns : List Int) : Fit (.tuple (nums ns)) ∧ Fit (.list (nums ns)) := by
  constructor
  · show (PyData.canLayAll0 (nums ns) && decide (PyData.depthAll (nums ns) + 1 ≤ 64)) = true
    rw [canLay_nums, depth_nums]; rfl
  · show (PyData.canLayAll0 (nums ns) && decide (PyData.depthAll (nums ns) + 1 ≤ 64)) = true
    rw [canLay_nums, depth_nums]; rfl
theorem any_nums (ns : List Int) (i : Int) : ((nums ns).any fun z => PyData.eqv z (.int i)) = decide (i ∈ ns) := by
  unfold nums
  rw [List.any_map]
  induction ns with
  | nil => rfl
  | cons y r ih =>
    rw [List.any_cons, ih]
    show (PyData.eqv (.int y) (.int i) || _) = _
    rw [eqv_int]
    by_cases e : y = i
    · subst e; simp
    · have e' : ¬ i = y := fun z => e z.symm
      simp [e, e']
theorem immut_nums (ns : List Int) : immut (.tuple (nums ns)) = true := by
  show immutAll (nums ns) = true
  induction ns with
  | nil => rfl
  | cons y r ih => exact ih
end FL

/-! F17: what is sorted; what repr is asked of; equal data. -/
namespace FL
open PySem PySem.Spec PyProof.Rows L2
theorem sorted_one {α : Type} {le : α → α → Bool} : ∀ {zs ys : List α}, zs.Perm ys → zs.Pairwise (fun a b => le a b = true) → ys.Pairwise (fun a b => le b a = false) → zs = ys
  | [], ys, p, _, _ => (List.Perm.nil_eq p)
  | z :: t, [], p, _, _ => absurd p.length_eq (by simp)
  | z :: t, y :: r, p, h1, h2 => by
    rw [List.pairwise_cons] at h1 h2
    have e : z = y := by
      rcases List.mem_cons.mp (p.mem_iff.mp List.mem_cons_self : z ∈ y :: r) with e | hz
      · exact e
      · rcases List.mem_cons.mp (p.mem_iff.mpr List.mem_cons_self : y ∈ z :: t) with e | hy
        · exact e.symm
        · have a := h1.1 y hy
          have b := h2.1 z hz
          rw [a] at b; cases b
    subst e
    rw [sorted_one (p.cons_inv) h1.2 h2.2]
theorem srt_one {xs ys : List PyData} (p : xs.Perm ys) (h : ys.Pairwise fun a b => PySem.W.dataLt a b = true) : srtD xs = ys := by
  refine sorted_one (le := PySem.W.dataLe false id) ((List.mergeSort_perm _ _).trans p) (PySem.W.sort_pairwise (PySem.W.sortLe_total _ _ _) _) (h.imp fun {a b} hab => ?_)
  show (!PyProof.Rows.lexLt PyProof.Rows.itemOrd (PySem.W.keyToks a) (PySem.W.keyToks b)) = false
  have : PyProof.Rows.lexLt PyProof.Rows.itemOrd (PySem.W.keyToks a) (PySem.W.keyToks b) = true := hab
  rw [this]; rfl
theorem lt_int (a b : Int) : PySem.W.dataLt (.int a) (.int b) = decide (a < b) := by
  show PyProof.Rows.lexLt PyProof.Rows.itemOrd [.inl a] [.inl b] = _
  by_cases h : a < b
  · simp [PyProof.Rows.lexLt, PyProof.Rows.itemLt, h]
  · simp [PyProof.Rows.lexLt, PyProof.Rows.itemLt, h]
theorem lt_trans {a b c : PyData} (h1 : PySem.W.dataLt a b = true) (h2 : PySem.W.dataLt b c = true) : PySem.W.dataLt a c = true :=
  (PyProof.Rows.listOrd PyProof.Rows.itemOrd).trans _ _ _ h1 h2
/-- neighbours only -/
def risesB : List PyData → Bool
  | [] => true
  | [_] => true
  | a :: b :: r => PySem.W.dataLt a b && risesB (b :: r)
theorem rises_pair : ∀ {xs : List PyData}, risesB xs = true → xs.Pairwise fun a b => PySem.W.dataLt a b = true
  | [], _ => .nil
  | [_], _ => List.pairwise_singleton ..
  | a :: b :: r, h => by
    have h' : PySem.W.dataLt a b = true ∧ risesB (b :: r) = true := by simpa [risesB] using h
    have ih := rises_pair h'.2
    refine List.pairwise_cons.mpr ⟨fun c hc => ?_, ih⟩
    rcases List.mem_cons.mp hc with e | hc
    · subst e; exact h'.1
    · exact lt_trans h'.1 ((List.pairwise_cons.mp ih).1 c hc)
theorem srt_range {n : Nat} {xs : List PyData} (p : xs.Perm (rangeD 0 n)) : srtD xs = rangeD 0 n := by
  refine srt_one p ?_
  rw [range_enc]
  refine List.pairwise_map.mpr ((List.pairwise_lt_range (n := n)).imp fun {a b} h => ?_)
  rw [lt_int]
  exact decide_eq_true (by omega)
theorem alike_ints (ns : List Int) : PySem.W.AllAlike (nums ns) := by
  intro d hd d' hd'
  obtain ⟨a, _, rfl⟩ := List.mem_map.mp hd
  obtain ⟨b, _, rfl⟩ := List.mem_map.mp hd'
  rfl
theorem sorts_ints (ns : List Int) : Sorts (nums ns) := by
  refine ⟨fun d hd => ?_, .inr ⟨alike_ints ns, .inr fun d hd => ?_⟩⟩
  · obtain ⟨a, _, rfl⟩ := List.mem_map.mp hd
    rfl
  · obtain ⟨a, _, rfl⟩ := List.mem_map.mp hd
    exact ⟨by simp, by simp⟩
theorem alike_nums : ∀ (a b : List Int), PySem.W.alikeAll (nums a) (nums b) = true
  | [], _ => by simp [nums, PySem.W.alikeAll]
  | _ :: _, [] => by simp [nums, PySem.W.alikeAll]
  | x :: a, y :: b => by
    show (PySem.W.alike (.int x) (.int y) && PySem.W.alikeAll (nums a) (nums b)) = true
    rw [alike_nums a b]; rfl
def tupsD (rs : List (List Int)) : List PyData := rs.map fun r => .tuple (nums r)
theorem sorts_tups {rs : List (List Int)} (h : ∀ r ∈ rs, r ≠ []) : Sorts (tupsD rs) := by
  refine ⟨fun d hd => ?_, .inr ⟨fun d hd d' hd' => ?_, .inl fun d hd => ?_⟩⟩
  · obtain ⟨a, _, rfl⟩ := List.mem_map.mp hd
    exact (fit_nums a).1
  · obtain ⟨a, _, rfl⟩ := List.mem_map.mp hd
    obtain ⟨b, _, rfl⟩ := List.mem_map.mp hd'
    exact alike_nums a b
  · obtain ⟨a, ha, rfl⟩ := List.mem_map.mp hd
    cases a with
    | nil => exact absurd rfl (h [] ha)
    | cons x r => exact ⟨.int x, nums r, rfl⟩
theorem fit_tups (rs : List (List Int)) : Fit (.list (tupsD rs)) ∧ Fit (.tuple (tupsD rs)) := by
  have h : PyData.canLayAll0 (tupsD rs) = true ∧ PyData.depthAll (tupsD rs) ≤ 1 := by
    induction rs with
    | nil => exact ⟨rfl, Nat.zero_le _⟩
    | cons r t ih =>
      constructor
      · show (PyData.canLayAll0 (nums r) && PyData.canLayAll0 (tupsD t)) = true
        rw [canLay_nums, ih.1]; rfl
      · show max (PyData.depthAll (nums r) + 1) (PyData.depthAll (tupsD t)) ≤ 1
        rw [depth_nums]
        have := ih.2
        omega
  constructor
  · show (PyData.canLayAll0 (tupsD rs) && decide (PyData.depthAll (tupsD rs) + 1 ≤ 64)) = true
    rw [h.1, decide_eq_true (by omega)]; rfl
  · show (PyData.canLayAll0 (tupsD rs) && decide (PyData.depthAll (tupsD rs) + 1 ≤ 64)) = true
    rw [h.1, decide_eq_true (by omega)]; rfl
theorem eqv_self {d : PyData} (h : Fit d) : PyData.eqv d d = true := SeqAt.eqv_refl d (SeqAt.canLay_of_shaped h)
/-- texts compared -/
def sEqS : S2_ := fun d e P => match d, e with
  | .str a, .str b => P (.bool (decide (a = b)))
  | _, _ => False
def sNeS : S2_ := fun d e P => match d, e with
  | .str a, .str b => P (.bool (!decide (a = b)))
  | _, _ => False
theorem str_dec {a b : Str} : decide (V.str a = V.str b) = decide (a = b) := by
  by_cases h : a = b
  · subst h; simp
  · rw [decide_eq_false h, decide_eq_false (fun z => h (by cases z; rfl))]
theorem s_eqS {X : Cx} {x : Sx} : Op2 X x rEq sEqS := by
  intro F H v w d e P Q si hS hF rv rw_ h k
  unfold sEqS at h
  split at h
  · rw [rv.str, rw_.str]
    refine ⟨rfl, ?_⟩
    rw [str_dec]
    exact k _ h _ H (Same.refl H) (.bl _)
  · exact h.elim
theorem s_neS {X : Cx} {x : Sx} : Op2 X x rNe sNeS := by
  intro F H v w d e P Q si hS hF rv rw_ h k
  unfold sNeS at h
  split at h
  · rw [rv.str, rw_.str]
    refine ⟨rfl, ?_⟩
    rw [str_dec]
    exact k _ h _ H (Same.refl H) (.bl _)
  · exact h.elim
/-- a statement first, the rest left alone -/
theorem gseq_go {g1 g2 : FS_} {k : FK} {env : Ev} (h : ∀ K : Ev → Prop, K = (fun e => g2 k e) → g1 { k with nx := K } env) : gSeq g1 g2 k env := h _ rfl
/-- small ints -/
def Small (i : Int) : Prop := -1000000 ≤ i ∧ i ≤ 1000000
theorem log_small {i : Int} (h : Small i) : i.natAbs.log2 ≤ 20 := by
  have : i.natAbs < 2 ^ 21 := by
    have := h.1
    have := h.2
    omega
  by_cases z : i.natAbs = 0
  · rw [z]; decide
  · have := (Nat.log2_lt z).mpr this
    omega
theorem says_nums : ∀ {ns : List Int}, (∀ x ∈ ns, Small x) → PyData.showableAll (nums ns) = true ∧ wtAll (nums ns) ≤ 25 * ns.length
  | [], _ => ⟨rfl, Nat.le_refl _⟩
  | n :: r, h => by
    have ih := says_nums (ns := r) fun x hx => h x (List.mem_cons_of_mem _ hx)
    have l := log_small (h n List.mem_cons_self)
    constructor
    · show (decide (n.natAbs.log2 < 1920) && PyData.showableAll (nums r)) = true
      rw [ih.1, decide_eq_true (by omega)]; rfl
    · show n.natAbs.log2 + 3 + 2 + wtAll (nums r) ≤ 25 * (r.length + 1)
      have := ih.2
      omega
theorem says_tup {ns : List Int} (h : ∀ x ∈ ns, Small x) (hl : ns.length ≤ 100000) : Says (.tuple (nums ns)) := by
  obtain ⟨a, b⟩ := says_nums h
  refine ⟨(fit_nums ns).1, a, ?_⟩
  show wtAll (nums ns) + 3 ≤ _
  omega
end FL

namespace FL
/-! plain: lists by inserting the greatest, inversions, falls -/
def insAt (l : List Int) (p : Nat) (k : Int) : List Int := l.take p ++ [k] ++ l.drop p
def inv : List Int → Int
  | [] => 0
  | x :: r => ((r.filter fun y => decide (y < x)).length : Int) + inv r
theorem insAt_cons (x : Int) (l : List Int) (p : Nat) (k : Int) : insAt (x :: l) (p + 1) k = x :: insAt l p k := rfl
theorem insAt_length (l : List Int) (p : Nat) (k : Int) : (insAt l p k).length = l.length + 1 := by
  unfold insAt
  simp only [List.length_append, List.length_take, List.length_drop, List.length_cons, List.length_nil]
  omega
theorem insAt_perm (l : List Int) (p : Nat) (k : Int) : (insAt l p k).Perm (k :: l) := by
  unfold insAt
  have h : (l.take p ++ [k] ++ l.drop p).Perm (k :: (l.take p ++ l.drop p)) := by
    rw [List.append_assoc]
    exact List.perm_middle
  rw [List.take_append_drop] at h
  exact h
theorem inv_ins : ∀ (l : List Int) (p : Nat) (k : Int), (∀ y ∈ l, y < k) → p ≤ l.length → inv (insAt l p k) = inv l + ((l.length - p : Nat) : Int)
  | l, 0, k, h, _ => by
    show ((l.filter fun y => decide (y < k)).length : Int) + inv l = inv l + ((l.length - 0 : Nat) : Int)
    rw [List.filter_eq_self.mpr fun y hy => decide_eq_true (h y hy), Nat.sub_zero]
    omega
  | [], p + 1, k, _, hp => by simp at hp
  | x :: l, p + 1, k, h, hp => by
    rw [insAt_cons]
    have ih := inv_ins l p k (fun y hy => h y (List.mem_cons_of_mem _ hy)) (by simpa using hp)
    have hx := h x List.mem_cons_self
    have e : ((insAt l p k).filter fun y => decide (y < x)).length = (l.filter fun y => decide (y < x)).length := by
      have h1 := ((insAt_perm l p k).filter fun y => decide (y < x)).length_eq
      rw [h1, List.filter_cons_of_neg (by simp; omega)]
    show ((((insAt l p k).filter fun y => decide (y < x)).length : Nat) : Int) + inv (insAt l p k) = ((((l.filter fun y => decide (y < x)).length : Nat) : Int) + inv l) + _
    rw [ih, e]
    have e2 : (x :: l).length - (p + 1) = l.length - p := by simp
    rw [e2]; omega
/-- a row cut at k -/
theorem filter_split (k : Int) (a b : List Int) (hb : ∀ y ∈ a ++ b, y ≠ k) :
    (a ++ k :: b).filter (fun y => decide (y ≤ k)) = insAt ((a ++ k :: b).filter fun y => decide (y < k)) (a.filter fun y => decide (y < k)).length k := by
  have e : ∀ l : List Int, (∀ y ∈ l, y ≠ k) → l.filter (fun y => decide (y ≤ k)) = l.filter fun y => decide (y < k) := fun l h => by
    apply List.filter_congr
    intro y hy
    have := h y hy
    by_cases hlt : y < k
    · simp [hlt, Int.le_of_lt hlt]
    · have : ¬ y ≤ k := by omega
      simp [hlt, this]
  rw [List.filter_append, List.filter_cons_of_pos (by simp), List.filter_append, List.filter_cons_of_neg (by simp), e a fun y hy => hb y (List.mem_append_left _ hy), e b fun y hy => hb y (List.mem_append_right _ hy)]
  unfold insAt
  rw [List.take_left' rfl, List.drop_left' rfl]
  simp
theorem split_inj {α : Type} {k : α} : ∀ {a b c d : List α}, k ∉ a → k ∉ c → a ++ k :: b = c ++ k :: d → a = c ∧ b = d
  | [], _, [], _, _, _, e => by simpa using e
  | [], _, x :: c, _, _, hc, e => by
    simp at e
    exact absurd (by rw [e.1]; exact List.mem_cons_self) hc
  | x :: a, _, [], _, ha, _, e => by
    simp at e
    exact absurd (by rw [← e.1]; exact List.mem_cons_self) ha
  | x :: a, b, y :: c, d, ha, hc, e => by
    simp at e
    obtain ⟨h1, h2⟩ := split_inj (fun h => ha (List.mem_cons_of_mem _ h)) (fun h => hc (List.mem_cons_of_mem _ h)) e.2
    exact ⟨by rw [e.1, h1], h2⟩

/-! ### counts and sums over a range -/
def sumF (f : Nat → Int) (n : Nat) : Int := ((List.range n).map f).sum
theorem sumF_succ (f : Nat → Int) (n : Nat) : sumF f (n + 1) = sumF f n + f n := by
  unfold sumF
  rw [List.range_succ, List.map_append, List.sum_append]; simp
theorem sumF_congr {f g : Nat → Int} : ∀ {n : Nat}, (∀ i, i < n → f i = g i) → sumF f n = sumF g n
  | 0, _ => rfl
  | n + 1, h => by rw [sumF_succ, sumF_succ, sumF_congr fun i hi => h i (by omega), h n (by omega)]
theorem sumF_add (f : Nat → Int) (m : Nat) : ∀ n : Nat, sumF f (m + n) = sumF f m + sumF (fun i => f (m + i)) n
  | 0 => by simp [sumF]
  | n + 1 => by rw [← Nat.add_assoc, sumF_succ, sumF_add f m n, sumF_succ]; omega
theorem sumF_plus (f g : Nat → Int) : ∀ n, sumF (fun i => f i + g i) n = sumF f n + sumF g n
  | 0 => by simp [sumF]
  | n + 1 => by rw [sumF_succ, sumF_succ, sumF_succ, sumF_plus f g n]; omega
theorem sumF_zero : ∀ n, sumF (fun _ => 0) n = 0
  | 0 => rfl
  | n + 1 => by rw [sumF_succ, sumF_zero n]; rfl
def cnt (F : Nat → Bool) (n : Nat) : Nat := (List.range n).countP F
theorem cnt_succ (F : Nat → Bool) (n : Nat) : cnt F (n + 1) = cnt F n + if F n = true then 1 else 0 := by
  unfold cnt
  rw [List.range_succ, List.countP_append]
  cases h : F n <;> simp [h]
theorem cnt_le (F : Nat → Bool) : ∀ n, cnt F n ≤ n
  | 0 => by simp [cnt]
  | n + 1 => by
    rw [cnt_succ]
    have := cnt_le F n
    split <;> omega
theorem cnt_mono (F : Nat → Bool) (m : Nat) : ∀ n, cnt F m ≤ cnt F (m + n)
  | 0 => Nat.le_refl _
  | n + 1 => by
    rw [← Nat.add_assoc, cnt_succ]
    have := cnt_mono F m n
    omega
theorem cnt_not (F : Nat → Bool) : ∀ n, cnt (fun i => !F i) n = n - cnt F n
  | 0 => by simp [cnt]
  | n + 1 => by
    rw [cnt_succ, cnt_succ, cnt_not F n]
    have := cnt_le F n
    cases F n <;> simp <;> omega
theorem cnt_sum (F : Nat → Bool) : ∀ n, ((cnt F n : Nat) : Int) = sumF (fun i => if F i = true then 1 else 0) n
  | 0 => by simp [cnt, sumF]
  | n + 1 => by
    rw [cnt_succ, sumF_succ, ← cnt_sum F n]
    split <;> simp
/-- the place of p among those that F picks -/
theorem filter_at (F : Nat → Bool) : ∀ (n p : Nat), p < n → F p = true → ((List.range n).filter F)[cnt F p]? = some p
  | 0, p, h, _ => by omega
  | n + 1, p, h, hp => by
    rw [List.range_succ, List.filter_append]
    by_cases e : p = n
    · subst e
      have l : ((List.range p).filter F).length = cnt F p := by unfold cnt; rw [List.countP_eq_length_filter]
      rw [List.getElem?_append_right (by omega), l]
      simp [hp]
    · have ih := filter_at F n p (by omega) hp
      rw [List.getElem?_append_left (List.getElem?_eq_some_iff.mp ih).1]
      exact ih
theorem filter_len (F : Nat → Bool) (n : Nat) : ((List.range n).filter F).length = cnt F n := by unfold cnt; rw [List.countP_eq_length_filter]
theorem filter_get (F : Nat → Bool) : ∀ (n i p : Nat), ((List.range n).filter F)[i]? = some p → p < n ∧ F p = true ∧ cnt F p = i
  | 0, i, p, h => by simp at h
  | n + 1, i, p, h => by
    rw [List.range_succ, List.filter_append] at h
    have fl := filter_len F n
    by_cases hi : i < cnt F n
    · rw [List.getElem?_append_left (by omega)] at h
      obtain ⟨a, b, c⟩ := filter_get F n i p h
      exact ⟨by omega, b, c⟩
    · rw [List.getElem?_append_right (by omega), fl] at h
      by_cases hf : F n = true
      · have e : [n].filter F = [n] := by simp [hf]
        rw [e] at h
        cases hd : i - cnt F n with
        | zero =>
          rw [hd] at h
          have e2 : n = p := by simpa using h
          subst e2
          exact ⟨by omega, hf, by omega⟩
        | succ m => rw [hd] at h; simp at h
      · have e : [n].filter F = [] := by simp [hf]
        rw [e] at h; simp at h

/-! ### falls -/
def Fl (l : List Int) (i : Nat) : Bool := decide (1 ≤ i) && decide (i < l.length) && decide (l.getD i 0 < l.getD (i - 1) 0)
def fallsN (l : List Int) : List Nat := (List.range l.length).filter (Fl l)
def maj (l : List Int) : Int := sumF (fun i => if Fl l i = true then (i : Int) else 0) l.length
theorem Fl_0 (l : List Int) : Fl l 0 = false := rfl
/-- how much the index grows -/
def grow (l : List Int) (p : Nat) : Nat := if p = l.length then 0 else if Fl l p = true then cnt (Fl l) l.length - cnt (Fl l) p else p + 1 + (cnt (Fl l) l.length - cnt (Fl l) p)
theorem getD_ins_lt {l : List Int} {p i : Nat} {k : Int} (h : i < p) (hp : p ≤ l.length) : (insAt l p k).getD i 0 = l.getD i 0 := by
  unfold insAt
  rw [List.append_assoc]
  simp only [List.getD]
  rw [List.getElem?_append_left (by rw [List.length_take]; omega), List.getElem?_take, if_pos h]
theorem getD_ins_eq {l : List Int} {p : Nat} {k : Int} (hp : p ≤ l.length) : (insAt l p k).getD p 0 = k := by
  unfold insAt
  rw [List.append_assoc]
  simp only [List.getD]
  rw [List.getElem?_append_right (by rw [List.length_take]; omega), List.length_take, Nat.min_eq_left hp, Nat.sub_self]
  rfl
theorem getD_ins_gt {l : List Int} {p i : Nat} {k : Int} (h : p ≤ i) (hp : p ≤ l.length) : (insAt l p k).getD (i + 1) 0 = l.getD i 0 := by
  unfold insAt
  rw [List.append_assoc]
  simp only [List.getD]
  rw [List.getElem?_append_right (by rw [List.length_take]; omega), List.length_take, Nat.min_eq_left hp]
  have e : i + 1 - p = (i - p) + 1 := by omega
  rw [e, List.singleton_append, List.getElem?_cons_succ, List.getElem?_drop]
  congr 2
  omega
theorem getD_lt {l : List Int} {k : Int} (h : ∀ y ∈ l, y < k) {i : Nat} (hi : i < l.length) : l.getD i 0 < k := by
  simp only [List.getD, List.getElem?_eq_getElem hi]
  exact h _ (List.getElem_mem hi)
theorem maj_ins {l : List Int} {p : Nat} {k : Int} (hk : ∀ y ∈ l, y < k) (hp : p ≤ l.length) : maj (insAt l p k) = maj l + (grow l p : Int) := by
  have len := insAt_length l p k
  -- falls of the new row
  have f1 : ∀ i, i < p → Fl (insAt l p k) i = Fl l i := fun i hi => by
    unfold Fl
    rw [getD_ins_lt hi hp, getD_ins_lt (by omega) hp, len]
    have a : decide (i < l.length + 1) = true := decide_eq_true (by omega)
    have b : decide (i < l.length) = true := decide_eq_true (by omega)
    rw [a, b]
  have f2 : Fl (insAt l p k) p = false := by
    unfold Fl
    by_cases h0 : p = 0
    · subst h0; rfl
    · rw [getD_ins_eq hp, getD_ins_lt (by omega) hp]
      have := getD_lt hk (i := p - 1) (by omega)
      have c : decide (k < l.getD (p - 1) 0) = false := decide_eq_false (by omega)
      rw [c, Bool.and_false]
  by_cases hpl : p = l.length
  · unfold grow
    rw [if_pos hpl]
    unfold maj
    rw [len, ← hpl, sumF_succ, f2, if_neg Bool.false_ne_true]
    rw [sumF_congr fun i hi => by rw [f1 i hi]]
    simp
  · have hlt : p < l.length := by omega
    obtain ⟨m, hm⟩ : ∃ m, l.length = p + 1 + m := ⟨l.length - (p + 1), by omega⟩
    have f3 : Fl (insAt l p k) (p + 1) = true := by
      unfold Fl
      rw [show p + 1 - 1 = p from rfl, getD_ins_eq hp, getD_ins_gt (Nat.le_refl _) hp, len]
      have a : decide (1 ≤ p + 1) = true := decide_eq_true (by omega)
      have b : decide (p + 1 < l.length + 1) = true := decide_eq_true (by omega)
      have c : decide (l.getD p 0 < k) = true := decide_eq_true (getD_lt hk hlt)
      rw [a, b, c]; rfl
    have f4 : ∀ i, Fl (insAt l p k) (p + 1 + 1 + i) = Fl l (p + 1 + i) := fun i => by
      unfold Fl
      have e1 : p + 1 + 1 + i = (p + 1 + i) + 1 := by omega
      have e2 : (p + 1 + i) + 1 - 1 = (p + 1 + i - 1) + 1 := by omega
      have a1 : decide (1 ≤ p + 1 + i + 1) = true := decide_eq_true (by omega)
      have a2 : decide (1 ≤ p + 1 + i) = true := decide_eq_true (by omega)
      have a3 : decide (p + 1 + i + 1 < l.length + 1) = decide (p + 1 + i < l.length) := by
        by_cases h : p + 1 + i < l.length
        · rw [decide_eq_true h, decide_eq_true (show p + 1 + i + 1 < l.length + 1 by omega)]
        · rw [decide_eq_false h, decide_eq_false (show ¬ p + 1 + i + 1 < l.length + 1 by omega)]
      rw [e1, e2, getD_ins_gt (by omega) hp, getD_ins_gt (by omega) hp, len, a1, a2, a3]
    have E : maj (insAt l p k) = sumF (fun i => if Fl l i = true then (i : Int) else 0) p + 0 + ((p + 1 : Nat) : Int) + sumF (fun i => if Fl l (p + 1 + i) = true then ((p + 1 + 1 + i : Nat) : Int) else 0) m := by
      unfold maj
      rw [len, hm, show p + 1 + m + 1 = (p + 1 + 1) + m by omega, sumF_add, sumF_succ, sumF_succ, f2, f3, if_neg Bool.false_ne_true, if_pos rfl]
      rw [sumF_congr (n := p) fun i hi => by rw [f1 i hi]]
      congr 1
      exact sumF_congr fun i _ => by rw [f4 i]
    have E0 : maj l = sumF (fun i => if Fl l i = true then (i : Int) else 0) p + (if Fl l p = true then (p : Int) else 0) + sumF (fun i => if Fl l (p + 1 + i) = true then ((p + 1 + i : Nat) : Int) else 0) m := by
      unfold maj
      rw [hm, sumF_add, sumF_succ]
    have E2 : sumF (fun i => if Fl l (p + 1 + i) = true then ((p + 1 + 1 + i : Nat) : Int) else 0) m = sumF (fun i => if Fl l (p + 1 + i) = true then ((p + 1 + i : Nat) : Int) else 0) m + sumF (fun i => if Fl l (p + 1 + i) = true then 1 else 0) m := by
      rw [← sumF_plus]
      exact sumF_congr fun i _ => by split <;> simp <;> omega
    have C : ((cnt (Fl l) l.length : Nat) : Int) = ((cnt (Fl l) p : Nat) : Int) + (if Fl l p = true then 1 else 0) + sumF (fun i => if Fl l (p + 1 + i) = true then 1 else 0) m := by
      rw [cnt_sum, hm, sumF_add, sumF_succ, ← cnt_sum]
    have mono := cnt_mono (Fl l) p (1 + m)
    rw [show p + (1 + m) = l.length by omega] at mono
    rw [E, E0, E2]
    unfold grow
    rw [if_neg hpl]
    by_cases hf : Fl l p = true
    · rw [if_pos hf] at C ⊢
      rw [if_pos hf, Int.ofNat_sub mono]
      omega
    · rw [if_neg hf] at C ⊢
      rw [if_neg hf]
      have : ((p + 1 + (cnt (Fl l) l.length - cnt (Fl l) p) : Nat) : Int) = (p : Int) + 1 + ((cnt (Fl l) l.length : Int) - cnt (Fl l) p) := by
        rw [Int.natCast_add, Int.ofNat_sub mono]; rfl
      rw [this]
      omega
/-- the place where the index grows by that much -/
def posOf (l : List Int) (more : Nat) : Nat :=
  if more = 0 then l.length else if more ≤ (fallsN l).length then (fallsN l).getD ((fallsN l).length - more) 0 else ((List.range l.length).filter fun i => !Fl l i).getD (more - (fallsN l).length - 1) 0
theorem posOf_grow {l : List Int} {p : Nat} (hp : p ≤ l.length) : posOf l (grow l p) = p := by
  have fl : (fallsN l).length = cnt (Fl l) l.length := filter_len _ _
  unfold grow
  by_cases e : p = l.length
  · rw [if_pos e]; unfold posOf; rw [if_pos rfl, e]
  · have hlt : p < l.length := by omega
    rw [if_neg e]
    have mono := cnt_mono (Fl l) (p + 1) (l.length - (p + 1))
    rw [show p + 1 + (l.length - (p + 1)) = l.length by omega, cnt_succ] at mono
    have cp := cnt_le (Fl l) p
    by_cases hf : Fl l p = true
    · rw [if_pos hf] at mono ⊢
      unfold posOf
      rw [if_neg (by omega), fl, if_pos (by omega)]
      have h := filter_at (Fl l) l.length p hlt hf
      have e2 : cnt (Fl l) l.length - (cnt (Fl l) l.length - cnt (Fl l) p) = cnt (Fl l) p := by omega
      rw [e2]
      unfold fallsN
      rw [List.getD, h]; rfl
    · rw [if_neg hf] at mono ⊢
      unfold posOf
      rw [if_neg (by omega), fl, if_neg (by omega)]
      have h := filter_at (fun i => !Fl l i) l.length p hlt (by simpa using hf)
      rw [cnt_not] at h
      have e2 : p + 1 + (cnt (Fl l) l.length - cnt (Fl l) p) - cnt (Fl l) l.length - 1 = p - cnt (Fl l) p := by omega
      rw [e2, List.getD, h]; rfl
theorem grow_posOf {l : List Int} {m : Nat} (hm : m ≤ l.length) : posOf l m ≤ l.length ∧ grow l (posOf l m) = m := by
  have fl : (fallsN l).length = cnt (Fl l) l.length := filter_len _ _
  unfold posOf
  by_cases h0 : m = 0
  · rw [if_pos h0]; unfold grow; rw [if_pos rfl]; exact ⟨Nat.le_refl _, h0.symm⟩
  · rw [if_neg h0, fl]
    by_cases h1 : m ≤ cnt (Fl l) l.length
    · rw [if_pos h1]
      have hi : cnt (Fl l) l.length - m < (fallsN l).length := by omega
      have g : (fallsN l)[cnt (Fl l) l.length - m]? = some ((fallsN l).getD (cnt (Fl l) l.length - m) 0) := by
        rw [List.getD, List.getElem?_eq_getElem hi]; rfl
      obtain ⟨a, b, c⟩ := filter_get _ _ _ _ g
      generalize (fallsN l).getD (cnt (Fl l) l.length - m) 0 = p at a b c
      refine ⟨by omega, ?_⟩
      unfold grow
      rw [if_neg (by omega), if_pos b, c]
      omega
    · rw [if_neg h1]
      have ln : ((List.range l.length).filter fun i => !Fl l i).length = l.length - cnt (Fl l) l.length := by rw [filter_len, cnt_not]
      have hi : m - cnt (Fl l) l.length - 1 < ((List.range l.length).filter fun i => !Fl l i).length := by omega
      have g : ((List.range l.length).filter fun i => !Fl l i)[m - cnt (Fl l) l.length - 1]? = some (((List.range l.length).filter fun i => !Fl l i).getD (m - cnt (Fl l) l.length - 1) 0) := by
        rw [List.getD, List.getElem?_eq_getElem hi]; rfl
      obtain ⟨a, b, c⟩ := filter_get _ _ _ _ g
      generalize ((List.range l.length).filter fun i => !Fl l i).getD (m - cnt (Fl l) l.length - 1) 0 = p at a b c
      rw [cnt_not] at c
      have cp := cnt_le (Fl l) p
      have mono := cnt_mono (Fl l) p (l.length - p)
      rw [show p + (l.length - p) = l.length by omega] at mono
      refine ⟨by omega, ?_⟩
      unfold grow
      rw [if_neg (by omega), if_neg (by simpa using b)]
      omega
end FL

namespace FL
/-! plain: rows built by inserting -/
def low (row : List Int) (k : Int) : List Int := row.filter fun y => decide (y < k)
/-- all numbers from 0 up to n, once each -/
def Row (n : Nat) (row : List Int) : Prop := row.Perm ((List.range n).map fun (i : Nat) => (i : Int))
theorem Row.len {n : Nat} {row : List Int} (h : Row n row) : row.length = n := by
  have := h.length_eq
  simpa using this
theorem Row.mem {n : Nat} {row : List Int} (h : Row n row) (y : Int) : y ∈ row ↔ 0 ≤ y ∧ y < n := by
  rw [h.mem_iff, List.mem_map]
  constructor
  · rintro ⟨i, hi, rfl⟩
    have := List.mem_range.mp hi
    omega
  · intro hy
    exact ⟨y.toNat, List.mem_range.mpr (by omega), by omega⟩
theorem range_int_nodup (n : Nat) : ((List.range n).map fun (i : Nat) => (i : Int)).Nodup := by
  refine List.Pairwise.map _ (fun a b hab => ?_) (List.nodup_range (n := n))
  intro e
  exact hab (by omega)
theorem Row.nodup {n : Nat} {row : List Int} (h : Row n row) : row.Nodup := h.nodup_iff.mpr (range_int_nodup n)
theorem low_low {row : List Int} {j k : Int} (h : j ≤ k) : low (low row k) j = low row j := by
  unfold low
  rw [List.filter_filter]
  apply List.filter_congr
  intro y _
  by_cases e : y < j
  · have : y < k := by omega
    simp [e, this]
  · simp [e]
theorem low_all {row : List Int} {k : Int} (h : ∀ y ∈ row, y < k) : low row k = row := List.filter_eq_self.mpr fun y hy => decide_eq_true (h y hy)
theorem low_ins {l : List Int} {p : Nat} {k : Int} (h : ∀ y ∈ l, y < k) : low (insAt l p k) k = l := by
  have e1 : low (l.take p) k = l.take p := low_all fun y hy => h y (List.mem_of_mem_take hy)
  have e2 : low (l.drop p) k = l.drop p := low_all fun y hy => h y (List.mem_of_mem_drop hy)
  unfold low at *
  unfold insAt
  rw [List.filter_append, List.filter_append, e1, e2]
  simp
theorem low_succ (row : List Int) (k : Int) : low row (k + 1) = row.filter fun y => decide (y ≤ k) := by
  unfold low
  apply List.filter_congr
  intro y _
  by_cases e : y ≤ k
  · have : y < k + 1 := by omega
    simp [e, this]
  · have : ¬ y < k + 1 := by omega
    simp [e, this]
theorem low_lt {row : List Int} {k : Int} : ∀ y ∈ low row k, y < k := fun y hy => of_decide_eq_true (List.mem_filter.mp hy).2
/-- a row cut at a number of its own -/
theorem Row.cut {n : Nat} {row : List Int} (h : Row n row) {k : Nat} (hk : k < n) : ∃ a b, row = a ++ (k : Int) :: b ∧ (k : Int) ∉ a ∧ (k : Int) ∉ b ∧ low row (k + 1) = insAt (low row k) (low a k).length k := by
  have hm : (k : Int) ∈ row := (h.mem k).mpr (by omega)
  obtain ⟨a, b, e⟩ := List.append_of_mem hm
  have nd := h.nodup
  rw [e] at nd
  have nd2 := List.nodup_append.mp nd
  have hb : (k : Int) ∉ b := (List.nodup_cons.mp nd2.2.1).1
  have ha : (k : Int) ∉ a := fun z => nd2.2.2 k z k List.mem_cons_self rfl
  refine ⟨a, b, e, ha, hb, ?_⟩
  rw [low_succ, e]
  exact filter_split k a b fun y hy z => by
    subst z
    rcases List.mem_append.mp hy with q | q
    · exact ha q
    · exact hb q
theorem Row.low0 {n : Nat} {row : List Int} (h : Row n row) : low row 0 = [] := by
  unfold low
  rw [List.filter_eq_nil_iff]
  intro y hy
  have := (h.mem y).mp hy
  simp
  omega
theorem Row.lowlen {n : Nat} {row : List Int} (h : Row n row) : ∀ k : Nat, k ≤ n → (low row k).length = k
  | 0, _ => by rw [show ((0 : Nat) : Int) = 0 from rfl, h.low0]; rfl
  | k + 1, hk => by
    obtain ⟨a, b, _, _, _, e⟩ := h.cut (k := k) (by omega)
    rw [show ((k + 1 : Nat) : Int) = (k : Int) + 1 by omega, e, insAt_length, Row.lowlen h k (by omega)]
theorem Row.lown {n : Nat} {row : List Int} (h : Row n row) : low row n = row := low_all fun y hy => ((h.mem y).mp hy).2

/-- where k was put -/
def cutP (row : List Int) (k : Int) : Nat := (low (row.takeWhile fun y => decide (y ≠ k)) k).length
/-- how many lesser ones stand behind k -/
def icAt (row : List Int) (k : Int) : Int := (((row.drop (row.idxOf k)).filter fun y => decide (y < k)).length : Nat)
theorem takeWhile_cut {k : Int} : ∀ {a b : List Int}, k ∉ a → (a ++ k :: b).takeWhile (fun y => decide (y ≠ k)) = a
  | [], b, _ => by simp
  | x :: a, b, h => by
    rw [List.mem_cons, not_or] at h
    rw [List.cons_append, List.takeWhile_cons_of_pos (by simp; exact fun e => h.1 e.symm), takeWhile_cut h.2]
theorem idxOf_cut {k : Int} : ∀ {a b : List Int}, k ∉ a → (a ++ k :: b).idxOf k = a.length
  | [], b, _ => by simp
  | x :: a, b, h => by
    rw [List.mem_cons, not_or] at h
    rw [List.cons_append, List.idxOf_cons, idxOf_cut h.2, show (x == k) = false from beq_eq_false_iff_ne.mpr fun e => h.1 e.symm]; rfl
theorem Row.step {n : Nat} {row : List Int} (h : Row n row) {k : Nat} (hk : k < n) : cutP row k ≤ (low row k).length ∧ low row (k + 1) = insAt (low row k) (cutP row k) k ∧ icAt row k = (((low row k).length - cutP row k : Nat) : Int) := by
  obtain ⟨a, b, e, ha, hb, q⟩ := h.cut hk
  have c : cutP row k = (low a k).length := by unfold cutP; rw [e, takeWhile_cut ha]
  have l : low row k = low a k ++ low b k := by
    unfold low
    rw [e, List.filter_append, List.filter_cons_of_neg (by simp)]
  refine ⟨by rw [c, l, List.length_append]; omega, by rw [c]; exact q, ?_⟩
  unfold icAt
  rw [e, idxOf_cut ha, List.drop_left, List.filter_cons_of_neg (by simp), ← e, c, l, List.length_append]
  have : (low b k).length = (b.filter fun y => decide (y < (k : Int))).length := rfl
  omega
/-- .. told by any other cut -/
theorem ins_inj {l : List Int} {p q : Nat} {k : Int} (hk : ∀ y ∈ l, y < k) (hp : p ≤ l.length) (hq : q ≤ l.length) (e : insAt l p k = insAt l q k) : p = q := by
  have n1 : ∀ m : Nat, k ∉ l.take m := fun m z => by have := hk k (List.mem_of_mem_take z); omega
  unfold insAt at e
  rw [List.append_assoc, List.append_assoc] at e
  have := (split_inj (n1 p) (n1 q) e).1
  have := congrArg List.length this
  rw [List.length_take, List.length_take] at this
  omega

/-! ### building -/
def build (pos : List Int → Int → Nat) : Nat → List Int → List Int → List Int
  | _, found, [] => found
  | k, found, c :: r => build pos (k + 1) (insAt found (pos found c) k) r
theorem rebuild {pos : List Int → Int → Nat} {n : Nat} {row code : List Int} (h : Row n row) (hl : code.length = n) (hp : ∀ k (hk : k < n), pos (low row k) code[k] = cutP row k) : build pos 0 [] code = row := by
  have go : ∀ m k : Nat, k + m = n → build pos k (low row k) (code.drop k) = row := fun m => by
    induction m with
    | zero =>
      intro k hk
      have e : k = n := by omega
      subst e
      rw [List.drop_of_length_le (by omega)]
      exact h.lown
    | succ m ih =>
      intro k hk
      have hlt : k < n := by omega
      rw [List.drop_eq_getElem_cons (by omega)]
      unfold build
      rw [hp k hlt, ← (h.step hlt).2.1]
      exact ih (k + 1) (by omega)
  have := go n 0 (by omega)
  rw [List.drop_zero, show ((0 : Nat) : Int) = 0 from rfl, h.low0] at this
  exact this
theorem ins_row {k : Nat} {l : List Int} (h : Row k l) (p : Nat) : Row (k + 1) (insAt l p k) := by
  unfold Row at *
  rw [List.range_succ, List.map_append]
  refine (insAt_perm l p k).trans ?_
  refine (List.Perm.cons _ h).trans ?_
  exact (List.perm_append_singleton _ _).symm
theorem built {pos : List Int → Int → Nat} : ∀ (code : List Int) (k : Nat) (found : List Int), Row k found → (∀ i (hi : i < code.length) (f : List Int), f.length = k + i → pos f code[i] ≤ f.length) →
    Row (k + code.length) (build pos k found code) ∧ low (build pos k found code) k = found ∧
      ∀ i (hi : i < code.length), low (build pos k found code) ((k + i : Nat) + 1) = insAt (low (build pos k found code) (k + i : Nat)) (pos (low (build pos k found code) (k + i : Nat)) code[i]) (k + i : Nat)
  | [], k, found, h, _ => ⟨h, low_all fun y hy => ((h.mem y).mp hy).2, fun i hi => absurd hi (Nat.not_lt_zero _)⟩
  | c :: r, k, found, h, hv => by
    have h1 := ins_row h (pos found c)
    obtain ⟨a, b, d⟩ := built r (k + 1) (insAt found (pos found c) k) h1 fun i hi f hf => hv (i + 1) (by simpa using hi) f (by omega)
    have lt : ∀ y ∈ found, y < (k : Int) := fun y hy => ((h.mem y).mp hy).2
    have lk : low (build pos k found (c :: r)) k = found := by
      show low (build pos (k + 1) (insAt found (pos found c) k) r) k = found
      rw [← low_low (j := (k : Int)) (k := ((k + 1 : Nat) : Int)) (by omega), b]
      exact low_ins lt
    refine ⟨?_, lk, fun i hi => ?_⟩
    · have e : k + (c :: r).length = k + 1 + r.length := by rw [List.length_cons]; omega
      rw [e]; exact a
    · cases i with
      | zero =>
        show low (build pos k found (c :: r)) ((k : Nat) + 1) = insAt (low (build pos k found (c :: r)) (k : Nat)) (pos (low (build pos k found (c :: r)) (k : Nat)) c) (k : Nat)
        rw [lk]
        exact b
      | succ i =>
        have := d i (by simpa using hi)
        have e : k + (i + 1) = k + 1 + i := by omega
        rw [e]
        exact this

/-! ### the codes -/
def posI (found : List Int) (c : Int) : Nat := ((found.length : Int) - c).toNat
def posX (found : List Int) (c : Int) : Nat := posOf found c.toNat
def icode (row : List Int) : List Int := (List.range row.length).map fun (k : Nat) => icAt row k
def xcode (row : List Int) : List Int := (List.range row.length).map fun (k : Nat) => maj (low row ((k : Int) + 1)) - maj (low row k)
theorem Row.ic {n : Nat} {row : List Int} (h : Row n row) {k : Nat} (hk : k < n) : icAt row k = inv (low row ((k : Int) + 1)) - inv (low row k) := by
  obtain ⟨h1, h2, h3⟩ := h.step hk
  rw [h3, h2, inv_ins _ _ _ low_lt h1]; omega
theorem Row.xc {n : Nat} {row : List Int} (h : Row n row) {k : Nat} (hk : k < n) : maj (low row ((k : Int) + 1)) - maj (low row k) = (grow (low row k) (cutP row k) : Int) := by
  obtain ⟨h1, h2, _⟩ := h.step hk
  rw [h2, maj_ins low_lt h1]; omega
theorem tele (f : Nat → Int) : ∀ n, ((List.range n).map fun k => f (k + 1) - f k).sum = f n - f 0
  | 0 => by simp
  | n + 1 => by rw [List.range_succ, List.map_append, List.sum_append, tele f n]; simp; omega
theorem Row.icode_sum {n : Nat} {row : List Int} (h : Row n row) : (icode row).sum = inv row := by
  unfold icode
  rw [h.len, List.map_congr_left (g := fun k : Nat => (fun j : Nat => inv (low row j)) (k + 1) - (fun j : Nat => inv (low row j)) k) fun k hk => by
    rw [h.ic (List.mem_range.mp hk)]; rfl, tele (fun j : Nat => inv (low row j)) n]
  show inv (low row n) - inv (low row ((0 : Nat) : Int)) = _
  rw [h.lown, show ((0 : Nat) : Int) = 0 from rfl, h.low0]
  unfold inv
  simp
theorem maj_nil : maj [] = 0 := rfl
theorem Row.xcode_sum {n : Nat} {row : List Int} (h : Row n row) : (xcode row).sum = maj row := by
  unfold xcode
  rw [h.len]
  have := tele (fun j : Nat => maj (low row j)) n
  have e : ((List.range n).map fun k : Nat => maj (low row ((k : Int) + 1)) - maj (low row k)).sum = maj (low row n) - maj (low row ((0 : Nat) : Int)) := this
  rw [e, h.lown, show ((0 : Nat) : Int) = 0 from rfl, h.low0, maj_nil]; omega
theorem grow_le {l : List Int} {p : Nat} (hp : p ≤ l.length) : grow l p ≤ l.length := by
  unfold grow
  have c1 := cnt_le (Fl l) l.length
  have c2 := cnt_le (Fl l) p
  have mono := cnt_mono (Fl l) (p + 1) (l.length - (p + 1))
  by_cases e : p = l.length
  · rw [if_pos e]; omega
  · rw [show p + 1 + (l.length - (p + 1)) = l.length by omega, cnt_succ] at mono
    rw [if_neg e]
    by_cases hf : Fl l p = true
    · rw [if_pos hf]; omega
    · rw [if_neg hf]
      have h2 : cnt (fun i => !Fl l i) l.length = l.length - cnt (Fl l) l.length := cnt_not _ _
      have h3 : cnt (fun i => !Fl l i) (p + 1) ≤ cnt (fun i => !Fl l i) l.length := by
        have := cnt_mono (fun i => !Fl l i) (p + 1) (l.length - (p + 1))
        rw [show p + 1 + (l.length - (p + 1)) = l.length by omega] at this
        exact this
      rw [cnt_not, cnt_succ, if_neg hf] at h3
      omega
theorem Row.back_i {n : Nat} {row : List Int} (h : Row n row) : build posI 0 [] (icode row) = row := by
  refine rebuild h (by unfold icode; rw [List.length_map, List.length_range, h.len]) fun k hk => ?_
  obtain ⟨h1, h2, h3⟩ := h.step hk
  unfold icode
  rw [List.getElem_map, List.getElem_range, h3]
  unfold posI
  have := h.lowlen k (by omega)
  omega
theorem Row.back_x {n : Nat} {row : List Int} (h : Row n row) : build posX 0 [] (xcode row) = row := by
  refine rebuild h (by unfold xcode; rw [List.length_map, List.length_range, h.len]) fun k hk => ?_
  unfold xcode
  rw [List.getElem_map, List.getElem_range, h.xc hk]
  unfold posX
  rw [Int.toNat_natCast]
  exact posOf_grow (h.step hk).1
/-- a code: each number from 0 to its place -/
def Code (code : List Int) : Prop := ∀ i (hi : i < code.length), 0 ≤ code[i] ∧ code[i] ≤ i
theorem row0 : Row 0 [] := List.Perm.refl _
theorem built_i {code : List Int} (h : Code code) : Row code.length (build posI 0 [] code) ∧ icode (build posI 0 [] code) = code := by
  obtain ⟨a, b, c⟩ := built (pos := posI) code 0 [] row0 fun i hi f hf => by unfold posI; have := h i hi; omega
  rw [Nat.zero_add] at a
  refine ⟨a, ?_⟩
  unfold icode
  rw [a.len]
  apply List.ext_getElem (by simp)
  intro i h1 h2
  rw [List.getElem_map, List.getElem_range]
  have c' := c i h2
  rw [Nat.zero_add] at c'
  obtain ⟨s1, s2, s3⟩ := a.step (k := i) h2
  have lw := a.lowlen i (by omega)
  have hi := h i h2
  have hp : posI (low (build posI 0 [] code) i) code[i] ≤ (low (build posI 0 [] code) i).length := by unfold posI; omega
  have := ins_inj low_lt s1 hp (s2.symm.trans c')
  rw [s3, this]
  have e : posI (low (build posI 0 [] code) i) code[i] = (((low (build posI 0 [] code) i).length : Int) - code[i]).toNat := rfl
  rw [e]
  omega
theorem built_x {code : List Int} (h : Code code) : Row code.length (build posX 0 [] code) ∧ xcode (build posX 0 [] code) = code := by
  obtain ⟨a, b, c⟩ := built (pos := posX) code 0 [] row0 fun i hi f hf => by unfold posX; have := h i hi; exact (grow_posOf (by omega)).1
  rw [Nat.zero_add] at a
  refine ⟨a, ?_⟩
  unfold xcode
  rw [a.len]
  apply List.ext_getElem (by simp)
  intro i h1 h2
  rw [List.getElem_map, List.getElem_range]
  have c' := c i h2
  rw [Nat.zero_add] at c'
  have lw := a.lowlen i (by omega)
  have hi := h i h2
  obtain ⟨g1, g2⟩ := grow_posOf (l := low (build posX 0 [] code) i) (m := code[i].toNat) (by omega)
  have e : posX (low (build posX 0 [] code) i) code[i] = posOf (low (build posX 0 [] code) i) code[i].toNat := rfl
  rw [c', e, maj_ins low_lt g1, g2]
  omega
end FL

/-! C71: codes of lists, what the laws k71, k74 share. -/
namespace FL
open PySem PySem.Spec PyProof.Rows L2
def sqI (ns : List Int) (d : PyData) : Prop := d = .tuple (nums ns) ∨ d = .list (nums ns)
def falls (ns : List Int) : List Int := ((List.range (ns.length - 1)).filter fun i => decide (ns.getD (i + 1) 0 < ns.getD i 0)).map fun (i : Nat) => 1 + (i : Int)
theorem falls_eq (ns : List Int) : falls ns = (fallsN ns).map fun (i : Nat) => (i : Int) := by
  unfold falls fallsN
  cases h : ns.length with
  | zero => rfl
  | succ m =>
    rw [List.range_succ_eq_map, List.filter_cons_of_neg (by rw [Fl_0]; exact Bool.false_ne_true), List.filter_map, List.map_map, Nat.succ_sub_one]
    have e : (List.range m).filter (fun i => decide (ns.getD (i + 1) 0 < ns.getD i 0)) = (List.range m).filter (Fl ns ∘ Nat.succ) := by
      apply List.filter_congr
      intro i hi
      have hi' := List.mem_range.mp hi
      show _ = Fl ns (i + 1)
      unfold Fl
      rw [decide_eq_true (show 1 ≤ i + 1 by omega), decide_eq_true (show i + 1 < ns.length by omega)]
      rfl
    rw [e]
    apply List.map_congr_left
    intro i _
    show 1 + (i : Int) = ((i + 1 : Nat) : Int)
    omega
theorem sum_filter_map (F : Nat → Bool) (f : Nat → Int) : ∀ n : Nat, (((List.range n).filter F).map f).sum = sumF (fun i => if F i = true then f i else 0) n
  | 0 => rfl
  | n + 1 => by
    rw [List.range_succ, List.filter_append, List.map_append, List.sum_append, sum_filter_map F f n, sumF_succ]
    cases h : F n <;> simp [h]
theorem maj_eq (ns : List Int) : (falls ns).sum = maj ns := by
  rw [falls_eq]
  exact sum_filter_map _ _ _
theorem falls_len (ns : List Int) : (falls ns).length ≤ ns.length := by
  unfold falls
  rw [List.length_map]
  have := List.length_filter_le (fun i => decide (ns.getD (i + 1) 0 < ns.getD i 0)) (List.range (ns.length - 1))
  rw [List.length_range] at this
  omega
theorem nums_ins (l : List Int) (p : Nat) (k : Int) : (nums l).take p ++ [PyData.int k] ++ (nums l).drop p = nums (insAt l p k) := by
  unfold nums insAt
  rw [List.map_append, List.map_append, List.map_take, List.map_drop]; rfl
theorem build_cons (pos : List Int → Int → Nat) (k : Nat) (found : List Int) (c : Int) (r : List Int) : build pos k found (c :: r) = build pos (k + 1) (insAt found (pos found c) k) r := rfl
theorem build_nil (pos : List Int → Int → Nat) (k : Nat) (found : List Int) : build pos k found [] = found := rfl
theorem perm_nums {ys : List PyData} {l : List Int} (h : ys.Perm (nums l)) : ∃ ns, ys = nums ns ∧ ns.Perm l := by
  let f : PyData → Int := fun d => match d with
    | .int i => i
    | _ => 0
  have e : ∀ l : List Int, (nums l).map f = l := fun l => by
    unfold nums
    rw [List.map_map]
    exact List.map_id'' (fun _ => rfl) l
  refine ⟨ys.map f, ?_, ?_⟩
  · unfold nums
    rw [List.map_map]
    have : ∀ d ∈ ys, (PyData.int ∘ f) d = d := fun d hd => by
      obtain ⟨i, _, rfl⟩ := List.mem_map.mp (h.mem_iff.mp hd)
      rfl
    exact (List.map_congr_left this).symm ▸ (List.map_id' ys).symm
  · have := h.map f
    rw [e] at this
    exact this
theorem rangeD_nums (n : Nat) : rangeD 0 n = nums ((List.range n).map fun (i : Nat) => (i : Int)) := by
  rw [range_enc]
  unfold nums
  rw [List.map_map]
  apply List.map_congr_left
  intro i _
  show PyData.int (0 + (i : Int)) = .int i
  rw [Int.zero_add]
theorem inv_sum : ∀ ns : List Int, ((List.range ns.length).map fun (i : Nat) => ((((ns.drop (i + 1)).filter fun y => decide (y < ns.getD i 0)).length : Nat) : Int)).sum = inv ns
  | [] => rfl
  | x :: r => by
    rw [List.length_cons, List.range_succ_eq_map, List.map_cons, List.sum_cons, List.map_map]
    have ih := inv_sum r
    show (((r.filter fun y => decide (y < x)).length : Nat) : Int) + _ = (((r.filter fun y => decide (y < x)).length : Nat) : Int) + inv r
    rw [← ih]
    rfl
theorem sum_bound {m : Int} : ∀ {l : List Int}, (∀ x ∈ l, 0 ≤ x ∧ x ≤ m) → 0 ≤ l.sum ∧ l.sum ≤ l.length * m
  | [], _ => by simp
  | x :: r, h => by
    have ih := sum_bound (m := m) (l := r) fun y hy => h y (List.mem_cons_of_mem _ hy)
    have hx := h x List.mem_cons_self
    rw [List.sum_cons, List.length_cons, Int.natCast_add, Int.add_mul]
    omega
theorem falls_small {ns : List Int} : ∀ x ∈ falls ns, 0 ≤ x ∧ x ≤ ns.length := fun x hx => by
  unfold falls at hx
  obtain ⟨i, hi, rfl⟩ := List.mem_map.mp hx
  have := List.mem_range.mp (List.mem_filter.mp hi).1
  omega
theorem mul_small {a b : Int} (h1 : 0 ≤ a) (h2 : a ≤ 20) (h3 : 0 ≤ b) (h4 : b ≤ 20) : a * b ≤ 400 := by
  have := Int.mul_le_mul h2 h4 h3 (by omega : (0 : Int) ≤ 20)
  omega
theorem maj_small {ns : List Int} (h : ns.length ≤ 20) : 0 ≤ maj ns ∧ maj ns ≤ 400 := by
  rw [← maj_eq]
  have := sum_bound (falls_small (ns := ns))
  have l := falls_len ns
  have := mul_small (a := ((falls ns).length : Int)) (b := (ns.length : Int)) (by omega) (by omega) (by omega) (by omega)
  omega
theorem inv_small {ns : List Int} (h : ns.length ≤ 20) : 0 ≤ inv ns ∧ inv ns ≤ 400 := by
  rw [← inv_sum]
  have := sum_bound (m := (ns.length : Int)) (l := (List.range ns.length).map fun (i : Nat) => ((((ns.drop (i + 1)).filter fun y => decide (y < ns.getD i 0)).length : Nat) : Int)) fun x hx => by
    obtain ⟨i, hi, rfl⟩ := List.mem_map.mp hx
    have := List.length_filter_le (fun y => decide (y < ns.getD i 0)) (ns.drop (i + 1))
    rw [List.length_drop] at this
    omega
  rw [List.length_map, List.length_range] at this
  have := mul_small (a := (ns.length : Int)) (b := (ns.length : Int)) (by omega) (by omega) (by omega) (by omega)
  omega
theorem low_len {row : List Int} (k : Int) : (low row k).length ≤ row.length := List.length_filter_le _ _
theorem Row.codex {n : Nat} {row : List Int} (h : Row n row) : Code (xcode row) := fun i hi => by
  have hi' : i < n := by unfold xcode at hi; rw [List.length_map, List.length_range, h.len] at hi; exact hi
  have e : (xcode row)[i] = (grow (low row i) (cutP row i) : Int) := by
    simp only [xcode, List.getElem_map, List.getElem_range]
    exact h.xc hi'
  have l := h.lowlen i (by omega)
  have g := grow_le (h.step hi').1
  rw [e]
  omega
theorem Row.codei {n : Nat} {row : List Int} (h : Row n row) : Code (icode row) := fun i hi => by
  have hi' : i < n := by unfold icode at hi; rw [List.length_map, List.length_range, h.len] at hi; exact hi
  have e : (icode row)[i] = (((low row i).length - cutP row i : Nat) : Int) := by
    simp only [icode, List.getElem_map, List.getElem_range]
    exact (h.step hi').2.2
  have l := h.lowlen i (by omega)
  rw [e]
  omega
theorem code_small {code : List Int} (h : Code code) (hl : code.length ≤ 20) : ∀ x ∈ code, Small x := fun x hx => by
  obtain ⟨i, hi, rfl⟩ := List.getElem_of_mem hx
  have := h i hi
  constructor <;> omega
theorem xlen {row : List Int} : (xcode row).length = row.length := by unfold xcode; rw [List.length_map, List.length_range]
theorem ilen {row : List Int} : (icode row).length = row.length := by unfold icode; rw [List.length_map, List.length_range]
def lessD (n : Nat) (row : List Int) : List PyData := (List.range (n + 1)).map fun (k : Nat) => .list (nums (low row k))
theorem at_less {n : Nat} {row : List Int} {k : Nat} (h : k ≤ n) {j : Int} (e : j = k) : atI (lessD n row) j = some (.list (nums (low row k))) := by
  subst e
  unfold atI lessD
  rw [List.length_map, List.length_range, ixN_nat (by omega)]
  simp [List.getElem?_range (show k < n + 1 by omega)]
theorem says_two {a b : List Int} (ha : ∀ x ∈ a, Small x) (hb : ∀ x ∈ b, Small x) (la : a.length ≤ 1000) (lb : b.length ≤ 1000) : Says (.list [.tuple (nums a), .tuple (nums b)]) := by
  obtain ⟨a1, a2⟩ := says_nums ha
  obtain ⟨b1, b2⟩ := says_nums hb
  refine ⟨?_, ?_, ?_⟩
  · exact (fit_tups [a, b]).1
  · show (PyData.showableAll (nums a) && (PyData.showableAll (nums b) && true)) = true
    rw [a1, b1]; rfl
  · show (wtAll (nums a) + 3 + 2 + (wtAll (nums b) + 3 + 2 + 0)) + 3 ≤ 16777216
    omega
theorem code_of {n : Nat} {ys : List PyData} (hl : ys.length = n) (h : ∀ (i : Nat) (h1 : i < (List.range n).length) (h2 : i < ys.length), ∃ c : Int, ys[i] = .int c ∧ 0 ≤ c ∧ c ≤ ((List.range n)[i] : Nat)) : ∃ code, ys = nums code ∧ Code code := by
  let f : PyData → Int := fun d => match d with
    | .int i => i
    | _ => 0
  refine ⟨ys.map f, ?_, fun i hi => ?_⟩
  · unfold nums
    apply List.ext_getElem (by simp)
    intro i h1 h2
    obtain ⟨c, e, _⟩ := h i (by simpa [hl] using h1) h1
    rw [List.getElem_map, List.getElem_map, e]
  · have hi' : i < ys.length := by simpa using hi
    obtain ⟨c, e, c1, c2⟩ := h i (by simpa [hl] using hi') hi'
    rw [List.getElem_range] at c2
    rw [List.getElem_map, e]
    exact ⟨c1, c2⟩
theorem says_told {a : List Int} {i j : Int} (ha : ∀ x ∈ a, Small x) (la : a.length ≤ 1000) (hi : Small i) (hj : Small j) : Says (.list [.tuple (nums a), .int i, .int j]) := by
  obtain ⟨a1, a2⟩ := says_nums ha
  have li := log_small hi
  have lj := log_small hj
  refine ⟨?_, ?_, ?_⟩
  · show (PyData.canLayAll0 (nums a) && (true && (true && true)) && decide (max (PyData.depthAll (nums a) + 1) (max 0 (max 0 0)) + 1 ≤ 64)) = true
    rw [canLay_nums, depth_nums]; rfl
  · show (PyData.showableAll (nums a) && (decide (i.natAbs.log2 < 1920) && (decide (j.natAbs.log2 < 1920) && true))) = true
    rw [a1, decide_eq_true (by omega), decide_eq_true (by omega)]; rfl
  · show (wtAll (nums a) + 3 + 2 + (i.natAbs.log2 + 3 + 2 + (j.natAbs.log2 + 3 + 2 + 0))) + 3 ≤ 16777216
    omega
end FL

namespace FL
open PySem PySem.Spec PyProof.Rows L2
def topS (i : Nat) : Stmt := PySem.Challenge.pw_numbersparted_k74_whole_index_as_inversi.main.body.getD i (.Pass ⟨0, 0, 0, 0⟩)
abbrev st_falls_of : Stmt := topS 1
abbrev st_index_of : Stmt := topS 2
abbrev st_inversion_code : Stmt := topS 3
abbrev st_inversions_of : Stmt := topS 4
abbrev st_index_code : Stmt := topS 5
abbrev st_row_by_inversions : Stmt := topS 6
abbrev st_index_for_inversions : Stmt := topS 7
abbrev st_index_row : Stmt := topS 8
abbrev st__law_open_cells : Stmt := topS 10
abbrev st__law_pick : Stmt := topS 11
abbrev st__law_any_order : Stmt := topS 12
abbrev st__law_rows : Stmt := topS 13
abbrev st__law_falls : Stmt := topS 14
abbrev st__law_inversions : Stmt := topS 15
abbrev st__law_product : Stmt := topS 16
abbrev st_law : Stmt := topS 17
/-- what the module holds -/
structure Mgs (K : PySem.W.Frag) (mg : Str → Option Value) : Prop where
  d_falls_of : Dn K mg "falls_of" st_falls_of ["row"]
  d_index_of : Dn K mg "index_of" st_index_of ["row"]
  d_inversion_code : Dn K mg "inversion_code" st_inversion_code ["row"]
  d_inversions_of : Dn K mg "inversions_of" st_inversions_of ["row"]
  d_index_code : Dn K mg "index_code" st_index_code ["row"]
  d_row_by_inversions : Dn K mg "row_by_inversions" st_row_by_inversions ["code"]
  d_index_for_inversions : Dn K mg "index_for_inversions" st_index_for_inversions ["row"]
  d_index_row : Dn K mg "index_row" st_index_row ["n"]
  d__law_open_cells : Dn K mg "_law_open_cells" st__law_open_cells ["script"]
  d__law_pick : Dn K mg "_law_pick" st__law_pick ["source", "most"]
  d__law_any_order : Dn K mg "_law_any_order" st__law_any_order ["source", "things"]
  d__law_rows : Dn K mg "_law_rows" st__law_rows ["n"]
  d__law_falls : Dn K mg "_law_falls" st__law_falls ["row"]
  d__law_inversions : Dn K mg "_law_inversions" st__law_inversions ["row"]
  d__law_product : Dn K mg "_law_product" st__law_product ["n"]
  z_abs : mg "abs" = none
  z_enumerate : mg "enumerate" = none
  z_int : mg "int" = none
  z_len : mg "len" = none
  z_list : mg "list" = none
  z_range : mg "range" = none
  z_repr : mg "repr" = none
  z_sorted : mg "sorted" = none
  z_sum : mg "sum" = none
  z_tuple : mg "tuple" = none
  z_zip : mg "zip" = none
def nPick : List Str := ["source", "most", "cells", "others", "lap", "stirred"]
theorem scPick : FnScope nPick ["source", "most"] (defScope st__law_pick) := ⟨rfl, rfl, rfl, by decide +kernel, rfl, by decide +kernel, by decide +kernel⟩
def nOpen : List Str := ["script", "stirred", "cell", "cells"]
theorem scOpen : FnScope nOpen ["script"] (defScope st__law_open_cells) := ⟨rfl, rfl, rfl, by decide +kernel, rfl, by decide +kernel, by decide +kernel⟩
section
variable {P : Program} {w : World} {K : PySem.W.Frag} {mg : Str → Option Value} {base : Heap}
theorem ok_pick0 (D : Dn K mg "_law_pick" st__law_pick ["source", "most"]) (mL : mg "len" = none) (mI : mg "int" = none) (s c : Addr) : Cal P w K mg base 1 "_law_pick" (spPick K s c) := by
  refine cal_of D scPick (fun vs H Q E ⟨m, e, _⟩ => by rw [e]; rfl) fun f cdv A outer s0 H vs Q E hgd hr ⟨m, e, ⟨hn, l0, x0, t0, ns, hs, hc⟩, hm, q⟩ => ?_
  subst e
  have hu : (cxOf CX0 P w K mg base nPick "_law_pick" (defScope st__law_pick) f cdv A outer s0 H E).nox.A.units + 1 < cLine := hu_of hr
  refine ⟨_, pss_cons (ps_if (pt_cmpR op_lt (pv 1) pe_int (nomark _)) (pss_one (ps_ret pe_int)) pss_nil)
    (pss_cons (ps_set (i := 2) scPick.nd rfl (.inl rfl) (pe_dget hu (pv 0) pe_str fun _ _ => rfl))
    (pss_cons (ps_while PassesOwn.never (PW.pt (pw_and (pt_cmpR op_lt (pe_dget hu (pv 0) pe_str fun _ _ => rfl) pe_int (nomark _)) (pw_and1 (pt_cmpR op_gt (pe_callB call_len_seq (by rfl) mL PySem.boot_len (pa_cons (pv 2) pa_nil)) pe_int (nomark _)))))
      (pss_one (ps_dput hu (pv 0) pe_str (pe_bm0 PySem.F.plainAttrs_list PySem.F.slot_list_pop PySem.F.type_list_pop mt_pop (pv 2)) rfl)))
    (pss_cons (ps_set (i := 3) scPick.nd rfl (.inl rfl) (pe_dget hu (pv 0) pe_str fun _ _ => rfl))
    (pss_cons (ps_if (pt_cmpR op_gt (pv 3) pe_int (nomark _))
      (pss_cons (ps_dput hu (pv 0) pe_str (pe_op op_fdiv (pv 3) (pv 1)) rfl) (pss_one (ps_ret (pe_op op_mod (pe_callTy call_int1 (by rfl) mI boot_int (pa_cons (pv 3) pa_nil)) (pv 1))))) pss_nil)
    (pss_cons (ps_dput hu (pv 0) pe_str (pe_op op_add (pe_dget hu (pv 0) pe_str fun _ _ => rfl) pe_int) rfl)
    (pss_cons (ps_set (i := 4) scPick.nd rfl (.inl rfl) (pe_dget hu (pv 0) pe_str fun _ _ => rfl))
    (pss_cons (ps_set (i := 5) scPick.nd rfl (.inl rfl) (pe_op op_mod (pe_callTy call_int1 (by rfl) mI boot_int (pa_cons (pe_op op_add (pe_dget hu (pv 0) pe_str fun _ _ => rfl) (pe_op op_mul (pv 4) pe_int)) pa_nil)) pe_int))
    (pss_cons (ps_set (i := 5) scPick.nd rfl (.inl rfl) (pe_op op_mod (pe_callTy call_int1 (by rfl) mI boot_int (pa_cons (pe_op op_add (pe_op op_mul (pv 5) (pv 5)) (pe_op op_mul (pv 4) pe_int)) pa_nil)) pe_int))
    (pss_one (ps_ret (pe_op op_mod (pe_callTy call_int1 (by rfl) mI boot_int (pa_cons (pe_op op_fdiv (pv 5) pe_int) pa_nil)) (pv 1)))))))))))), ?_⟩
  refine ⟨.int m, rfl, m, 2, rfl, rfl, _, rfl, ite2 (fun h => ?_) (fun h => ?_)⟩
  · have h' : m < 2 := of_decide_eq_true h
    exact q 0 H (fun _ => rfl) (fun z => absurd h' (by omega)) ⟨hn, l0, x0, t0, ns, hs, hc⟩ (Keep.refl _ _)
  have h2 : 2 ≤ m := by
    have := of_decide_eq_false (by simpa using h : decide (m < 2) = false)
    omega
  refine ⟨.ref s, rfl, s, .ref c, rfl, get_cells hs, ?_⟩
  refine ⟨fun n σ H' => ∃ (l : Int) (ns : List Int), σ = [some (.ref s), some (.int m), some (.ref c), none, none, none] ∧ H' s = some (.dK (srcK c l x0 t0)) ∧ H' c = some (.lst (ns.map V.int)) ∧ Keep (sx s c).S H H' ∧ n = ns.length,
    ⟨_, l0, ns, rfl, hs, hc, Keep.refl _ _, rfl⟩, ?_⟩
  rintro n σ H1 ⟨l, ns1, rfl, hs1, hc1, kp, rfl⟩
  refine and_read (decide (l < 2)) (decide ((0 : Int) < (ns1.map V.int).length)) (fun R hR => ?_) (fun R hR => ?_) ?_
  · exact ⟨.ref s, rfl, s, .int l, rfl, get_left hs1, l, 2, rfl, rfl, _, rfl, hR⟩
  · exact ⟨.ref c, rfl, c, ns1.map V.int, rfl, .inl (SqL.of hc1), _, 0, rfl, rfl, _, rfl, hR⟩
  refine ite2 (fun hb => ?_) (fun hb => ?_)
  · have hb2 := (Bool.and_eq_true_iff.mp hb).2
    have hne : 0 < ns1.length := by
      have := of_decide_eq_true hb2
      rw [List.length_map] at this
      omega
    obtain ⟨y, hy⟩ : ∃ y, ns1[ns1.length - 1]? = some y := ⟨_, List.getElem?_eq_getElem (by omega)⟩
    refine ⟨fun σ' H' => ∃ (l : Int) (ns : List Int), σ' = [some (.ref s), some (.int m), some (.ref c), none, none, none] ∧ H' s = some (.dK (srcK c l x0 t0)) ∧ H' c = some (.lst (ns.map V.int)) ∧ Keep (sx s c).S H H' ∧ ns.length < ns1.length, fun σ' H' ⟨l, ns, e1, e2, e3, e4, e5⟩ => ⟨_, e5, l, ns, e1, e2, e3, e4, rfl⟩, ?_⟩
    have hc2 : upd H1 c (.lst ((ns1.dropLast).map V.int)) s = some (.dK (srcK c l x0 t0)) := by rw [upd_ne hn]; exact hs1
    refine ⟨.ref c, rfl, .inl ⟨rfl, _, SqL.of hc1⟩, c, ns1.map V.int, .int y, rfl, rfl, hc1, by rw [List.length_map, List.getElem?_map, hy]; rfl, ?_⟩
    rw [← List.map_dropLast]
    refine ⟨.ref s, rfl, s, _, rfl, put_left hc2, y, ns1.dropLast, rfl, upd_same, by rw [upd_ne hn.symm, upd_same], (kp.trans keep_c).trans keep_s, by rw [List.length_dropLast]; omega⟩
  refine ⟨.ref s, rfl, s, .int l, rfl, get_left hs1, ?_⟩
  refine ⟨.int l, rfl, l, 1, rfl, rfl, _, rfl, ite2 (fun h1 => ?_) (fun h1 => ?_)⟩
  · refine ⟨.int l, rfl, .int m, rfl, l, m, rfl, rfl, ⟨by omega, hm⟩, .ref s, rfl, s, _, rfl, put_left hs1, .int l, rfl, .inl ⟨l, rfl, ?_⟩⟩
    refine ⟨.int m, rfl, l, m, rfl, rfl, by omega, ?_⟩
    exact q _ _ (fun z => absurd z (by omega)) (fun _ => ⟨Int.emod_nonneg _ (by omega), Int.emod_lt_of_pos _ (by omega)⟩) ⟨hn, _, _, _, ns1, upd_same, by rw [upd_ne hn.symm]; exact hc1⟩ (kp.trans keep_s)
  refine ⟨.ref s, rfl, s, .int t0, rfl, get_turn hs1, t0, 1, rfl, rfl, .ref s, rfl, s, _, rfl, put_turn hs1, ?_⟩
  have hs2 : upd H1 s (.dK (srcK c l x0 (t0 + 1))) s = some (.dK (srcK c l x0 (t0 + 1))) := upd_same
  refine ⟨.ref s, rfl, s, .int (t0 + 1), rfl, get_turn hs2, ?_⟩
  refine ⟨.ref s, rfl, s, .int x0, rfl, get_mixed hs2, .int (t0 + 1), rfl, t0 + 1, 104729, rfl, rfl, .inr ⟨by decide, by decide⟩, x0, (t0 + 1) * 104729, rfl, rfl, .inl ⟨_, rfl, _, 998244353, rfl, rfl, pos_lit1, ?_⟩⟩
  have b1 := Int.emod_nonneg (x0 + (t0 + 1) * 104729) (b := 998244353) (by decide)
  have b2 := Int.emod_lt_of_pos (x0 + (t0 + 1) * 104729) (b := 998244353) (by decide)
  refine ⟨.int ((x0 + (t0 + 1) * 104729) % 998244353), rfl, .int ((x0 + (t0 + 1) * 104729) % 998244353), rfl, ((x0 + (t0 + 1) * 104729) % 998244353), ((x0 + (t0 + 1) * 104729) % 998244353), rfl, rfl, .inl ⟨by omega, by omega⟩, .int (t0 + 1), rfl, t0 + 1, 17, rfl, rfl, .inr ⟨by decide, by decide⟩, _, _, rfl, rfl, .inl ⟨_, rfl, _, 2147483647, rfl, rfl, pos_lit2, ?_⟩⟩
  refine ⟨_, rfl, _, 16, rfl, rfl, ⟨by decide, by decide⟩, .inl ⟨_, rfl, .int m, rfl, _, m, rfl, rfl, by omega, ?_⟩⟩
  exact q _ _ (fun z => absurd z (by omega)) (fun _ => ⟨Int.emod_nonneg _ (by omega), Int.emod_lt_of_pos _ (by omega)⟩) ⟨hn, _, _, _, ns1, hs2, by rw [upd_ne hn.symm]; exact hc1⟩ (kp.trans keep_s)
theorem ok_open0 (D : Dn K mg "_law_open_cells" st__law_open_cells ["script"]) (mI : mg "int" = none) (mA : mg "abs" = none) : Cal P w K mg base 1 "_law_open_cells" (spOpen K) := by
  refine cal_of D scOpen (fun vs H Q E ⟨a, ns, e, _⟩ => by rw [e]; rfl) fun f cdv A outer s0 H vs Q E hgd hr ⟨a, ns, e, hS, hlen, q⟩ => ?_
  subst e
  have hu : (cxOf CX0 P w K mg base nOpen "_law_open_cells" (defScope st__law_open_cells) f cdv A outer s0 H E).nox.A.units + 1 < cLine := hu_of hr
  refine ⟨_, pss_cons (ps_set (i := 1) scOpen.nd rfl (.inl rfl) pe_int)
    (pss_cons (ps_for PassesOwn.never rfl (pi_list (pv 0)) (pg_name (i := 2) scOpen.nd rfl (.inl rfl))
      (pss_one (ps_set (i := 1) scOpen.nd rfl (.inl rfl) (pe_op op_mod (pe_callTy call_int1 (by rfl) mI boot_int (pa_cons (pe_op op_add (pe_op op_add (pe_op op_mul (pv 1) pe_int) (pe_op op_mul (pv 2) pe_int)) pe_int) pa_nil)) pe_int))))
    (pss_cons (ps_setLc (i := 3) rfl scOpen.nd rfl rfl (sw_true rfl rfl rfl (by decide +kernel)) (pi_list (pv 0)) (blkOk_by (own := [("cell", 2)]) (N := nOpen) (sc := defScope st__law_open_cells) (by decide +kernel))
      (fun s H C cl fp => pg_name (i := 2) scOpen.nd rfl (.inl rfl)) (fun s H C cl fp => pts_nil) (fun s H C cl fp => pe_callB call_abs (by rfl) mA boot_abs (pa_cons (pv 2) pa_nil)))
    (pss_one (ps_ret (pe_disp (pps_cons pe_str (pe_revL (pv 3)) (pps_cons pe_str pe_int (pps_cons pe_str (pv 1) (pps_cons pe_str pe_int pps_nil)))) rfl rfl (by decide) (by decide)))))), ?_⟩
  have at_ : ∀ i, i < ns.length → (ns.map V.int)[i]? = some (.int ns[i]!) := fun i hi => by
    rw [List.getElem?_map, List.getElem?_eq_getElem hi, getElem!_pos ns i hi]; rfl
  refine ⟨.ref a, rfl, a, rfl, ⟨_, hS⟩, fun i m σ H3 => ∃ st y2, σ = [some (.ref a), some (.int st), y2, none] ∧ i + m = ns.length ∧ H3 = H, ⟨ns.length, 11, none, rfl, by omega, rfl⟩, ?_⟩
  rintro i m σ H3 ⟨st, y2, rfl, em, rfl⟩
  by_cases hi : i < ns.length
  · refine .inr ⟨⟨_, _, hS, at_ i hi⟩, fun σ' H' => ∃ st y2, σ' = [some (.ref a), some (.int st), y2, none] ∧ H' = H3, fun σ' H' ⟨st, y2, e1, e2⟩ => ⟨m - 1, by omega, st, y2, e1, by omega, e2⟩, fun v H' hy => ?_⟩
    obtain ⟨rfl, fv⟩ := hy
    have ev := Option.some.inj ((fv _ hS).symm.trans (at_ i hi))
    subst ev
    exact ⟨.int st, rfl, st, 69069, rfl, rfl, .inr ⟨by decide, by decide⟩, .int ns[i]!, rfl, ns[i]!, 31, rfl, rfl, .inr ⟨by decide, by decide⟩, _, _, rfl, rfl, _, 5, rfl, rfl, .inl ⟨_, rfl, _, 2147483629, rfl, rfl, pos_lit3, _, _, rfl, rfl⟩⟩
  refine .inl ⟨⟨_, hS, by rw [List.length_map]; omega⟩, ?_⟩
  refine ⟨.ref a, rfl, a, rfl, ⟨_, hS⟩, fun c hc => ⟨fun i m Hc => i + m = ns.length ∧ Same H3 Hc ∧ Hc c = some (.lst (((ns.take i).map fun n => if n < 0 then -n else n).map V.int)), ⟨ns.length, by omega, same_upd hc, upd_same⟩, ?_⟩⟩
  rintro i m Hc ⟨em, sm, hcc⟩
  have hS1 := sm.seq hS
  by_cases hi : i < ns.length
  · refine .inr ⟨⟨_, _, hS1, at_ i hi⟩, fun H' => Same H3 H' ∧ H' c = some (.lst (((ns.take (i + 1)).map fun n => if n < 0 then -n else n).map V.int)), fun H' ⟨e1, e2⟩ => ⟨m - 1, by omega, by omega, e1, e2⟩, fun v H2 hy => ?_⟩
    obtain ⟨rfl, fv⟩ := hy
    have ev := Option.some.inj ((fv _ hS1).symm.trans (at_ i hi))
    subst ev
    refine ⟨rfl, ?_⟩
    refine ⟨.int ns[i]!, rfl, ns[i]!, rfl, _, hcc, ?_, fun b o e => ?_, ?_⟩
    · rw [List.length_map, List.length_map, List.length_take, sizeLine_eq]; omega
    · rw [upd_ne (fun z => by rw [z, hc] at e; cases e)]; exact sm b o e
    · rw [upd_same, List.take_add_one, List.getElem?_eq_getElem hi, getElem!_pos ns i hi]
      rw [List.map_append, List.map_append]; rfl
  refine .inl ⟨⟨_, hS1, by rw [List.length_map]; omega⟩, ?_⟩
  have ti : ns.take i = ns := List.take_of_length_le (by omega)
  rw [ti] at hcc
  intro p hp
  have hcp : c ≠ p := ne_of_none hcc hp
  have hcc2 : upd Hc p (.dK []) c = some (.lst ((ns.map fun n => if n < 0 then -n else n).map V.int)) := by rw [upd_ne hcp]; exact hcc
  refine ⟨.ref c, rfl, c, _, rfl, SqL.of hcc2, fun r hr2 => ?_⟩
  have hrp : p ≠ r := fun z => by rw [← z, upd_same] at hr2; cases hr2
  refine ⟨.int st, rfl, by rw [upd_ne hrp, upd_same], srcK r 1 st 0, rfl, (show 4 ≤ 15 by decide), ?_⟩
  have hp0 : H3 p = none := sm.free hp
  have hr0 : H3 r = none := by
    rw [upd_ne hrp.symm] at hr2
    exact sm.free hr2
  refine q p r _ hp0 hr0 ⟨hrp, 1, st, 0, (ns.map fun n => if n < 0 then -n else n).reverse, ?_, ?_⟩ fun b o e => ?_
  · rw [upd_same]; rfl
  · rw [upd_ne hrp.symm, upd_same, List.map_reverse]
  · have nb : b ≠ p := fun z => by rw [z, hp0] at e; cases e
    have nr : b ≠ r := fun z => by rw [z, hr0] at e; cases e
    rw [upd_ne nb, upd_ne nr, upd_ne nb]
    exact sm b o e
end

def nAny : List Str := ["source", "things", "others", "lap"]
theorem scAny : FnScope nAny ["source", "things"] (defScope st__law_any_order) := ⟨rfl, rfl, rfl, by decide +kernel, rfl, by decide +kernel, by decide +kernel⟩
section
variable {P : Program} {w : World} {K : PySem.W.Frag} {mg : Str → Option Value} {base : Heap}
theorem ok_any (D : Dn K mg "_law_any_order" st__law_any_order ["source", "things"]) (s c : Addr) (cp : Cal P w K mg base 1 "_law_pick" (spPick K s c)) (mL : mg "len" = none) (mT : mg "list" = none) (mR : mg "range" = none) :
    Cal P w K mg base 2 "_law_any_order" (spF K (sx s c) anyD) := by
  refine cal_of D scAny (fun vs H Q E ⟨G, ds, Pd, _, _, _, r, ⟨xs, e, _⟩, _⟩ => by rw [r.length, e]; rfl) fun f cdv A outer s0 H vs Q E hgd hr ⟨G, ds, Pd, si, gS, gH, r, ⟨es, ed, hlen, q⟩, kk⟩ => ?_
  subst ed
  obtain ⟨v, u, rfl, r1, r2⟩ := rpa2 r
  have e1 := rp_src r1
  subst e1
  obtain ⟨p, xs, rfl, hp, rx⟩ := (Rp.toB r2).lst
  have len := rx.length
  refine ⟨_, pss_cons (ps_set (i := 2) scAny.nd rfl (.inr rfl) (pe_callTy call_list_of (by rfl) mT boot_list (pa_cons (pv 1) pa_nil)))
    (pss_one (ps_ret (pe_lc (own := [("lap", 3)]) (te := tBM K "list" rPopAt (tVar 2) (tCons (tCall (spPick K s c) [] E0 (tCons (tVar 0) (tCons (tCB (fun xs H Q => ∃ p ys, xs = [.ref p] ∧ (SqL K H p ys ∨ SqT K H p ys) ∧ Q (.int ys.length) H) (tCons (tVar 2) tNil)) tNil))) tNil)) rfl scAny.nd (pi_range1 (by rfl) mR (pa_cons (pe_callB call_len_seq (by rfl) mL PySem.boot_len (pa_cons (pv 2) pa_nil)) pa_nil)) (blkOk_by (own := [("lap", 3)]) (N := nAny) (sc := defScope st__law_any_order) (by decide +kernel))
      (fun s H C cl fp => pg_name (i := 3) scAny.nd rfl (.inl rfl)) (fun s H C cl fp => pts_nil)
      (fun s H C cl fp => pe_bm PySem.F.plainAttrs_list PySem.F.slot_list_pop PySem.F.type_list_pop mt_popAt (pv 2) (pa_cons (pe_cal cp (guards_deeper hgd _) hr (Nat.le_refl _) (by rfl) (pa_cons (pv 0) (pa_cons (pe_callB call_len_seq (by rfl) mL PySem.boot_len (pa_cons (pv 2) pa_nil)) pa_nil))) pa_nil))))), ?_⟩
  have nSp : ¬ (sx s c).S p := fun z => by
    obtain ⟨o, e, n, _⟩ := (sx s c).there H p si z
    rw [hp] at e; cases e
    rcases z with z | z
    · obtain ⟨_, l, m, t, ns, h1, h2⟩ := si
      rw [← z, hp] at h1; cases h1
    · exact False.elim (by
        cases r2 with
        | lst h n _ => exact n (gS p (.inr z)))
  refine ⟨.ref p, rfl, p, xs, rfl, .inl (SqL.of hp), fun o ho => ?_⟩
  have hpo : p ≠ o := ne_of_none hp ho
  have nSo : ¬ (sx s c).S o := fun z => by
    obtain ⟨u, e, _⟩ := (sx s c).there H o si z
    rw [ho] at e; cases e
  have ho1 : upd H o (.lst xs) o = some (.lst xs) := upd_same
  refine ⟨.ref o, rfl, o, xs, rfl, .inl (SqL.of ho1), _, rfl, by omega, by omega, fun D hD => ?_⟩
  have hDo : D ≠ o := fun z => by rw [z, upd_same] at hD; cases hD
  have hD0 : H D = none := by rw [upd_ne hDo] at hD; exact hD
  have nSD : ¬ (sx s c).S D := fun z => by
    obtain ⟨u, e, _⟩ := (sx s c).there H D si z
    rw [hD0] at e; cases e
  refine ⟨fun i m Hc => i + m = es.length ∧ (sx s c).SI Hc ∧ Keep (sx s c).S H Hc ∧ ∃ acc rest : List (V × PyData), Hc D = some (.lst (acc.map Prod.fst)) ∧ Hc o = some (.lst (rest.map Prod.fst)) ∧ acc.length = i ∧ rest.length = m ∧ (acc ++ rest).Perm (xs.zip es),
    ⟨es.length, by omega, (sx s c).updN ((sx s c).updN si ho) hD, fun a u e n => ?_, [], xs.zip es, upd_same, ?_, rfl, ?_, List.Perm.refl _⟩, ?_⟩
  · rw [upd_ne (ne_of_none e hD0), upd_ne (ne_of_none e ho)]; exact e
  · rw [upd_ne hDo.symm, upd_same, fst_zip len]
  · rw [List.length_zip, len, Nat.min_self]
  rintro i m Hc ⟨em, si1, k1, acc, rest, hcD, hco, la, lr, pm⟩
  by_cases hi : i < es.length
  · refine .inr ⟨?_, fun H' => (sx s c).SI H' ∧ Keep (sx s c).S H H' ∧ ∃ acc rest : List (V × PyData), H' D = some (.lst (acc.map Prod.fst)) ∧ H' o = some (.lst (rest.map Prod.fst)) ∧ acc.length = i + 1 ∧ rest.length = m - 1 ∧ (acc ++ rest).Perm (xs.zip es),
      fun H' ⟨e1, e2, e3⟩ => ⟨m - 1, by omega, by omega, e1, e2, e3⟩, fun v H2 hy => ?_⟩
    · show i < (xs.length : Int).toNat
      omega
    obtain ⟨rfl, rfl⟩ := hy
    refine ⟨rfl, ?_⟩
    refine ⟨.ref o, rfl, .inl ⟨rfl, _, SqL.of hco⟩, .ref s, rfl, .ref o, rfl, o, rest.map Prod.fst, rfl, .inl (SqL.of hco), ?_⟩
    have lm : (rest.map Prod.fst).length = m := by rw [List.length_map, lr]
    rw [lm]
    refine ⟨m, rfl, si1, by omega, fun r H3 h1 h2 si3 k3 => ?_⟩
    have rb : 0 ≤ r ∧ r < m := by
      by_cases hm : (m : Int) < 2
      · rw [h1 hm]; omega
      · exact h2 (by omega)
    have rb2 : r.toNat < rest.length := by omega
    have hco3 := k3 o _ hco nSo
    have hcD3 := k3 D _ hcD nSD
    refine ⟨o, rest.map Prod.fst, r, r.toNat, (rest[r.toNat]).1, rfl, rfl, hco3, by omega, by omega, seqIx rb.1 (by rw [lm]; exact rb.2), ?_, ?_⟩
    · rw [List.getElem?_map, List.getElem?_eq_getElem rb2]; rfl
    have hcD4 : upd H3 o (.lst ((rest.map Prod.fst).eraseIdx r.toNat)) D = some (.lst (acc.map Prod.fst)) := by rw [upd_ne hDo]; exact hcD3
    refine ⟨acc.map Prod.fst, hcD4, by rw [List.length_map, sizeLine_eq]; omega, ?_, fun a u e n => ?_, acc ++ [rest[r.toNat]], rest.eraseIdx r.toNat, ?_, ?_, ?_, ?_, (perm_move rb2).trans pm⟩
    · refine (sx s c).keep H3 _ si3 fun a ha => ?_
      rw [upd_ne (fun z => nSD (by rw [← z]; exact ha)), upd_ne (fun z => nSo (by rw [← z]; exact ha))]
    · rw [upd_ne (ne_of_none e hD0), upd_ne (ne_of_none e ho)]
      exact k3 a u (k1 a u e n) n
    · rw [upd_same, List.map_append]; rfl
    · rw [upd_ne hDo.symm, upd_same, erase_map]
    · rw [List.length_append, la]; rfl
    · rw [List.length_eraseIdx, if_pos rb2, lr]
  · have em0 : m = 0 := by omega
    subst em0
    have er : rest = [] := List.eq_nil_of_length_eq_zero lr
    subst er
    rw [List.append_nil] at pm
    refine .inl ⟨?_, ?_⟩
    · show (xs.length : Int).toNat ≤ i
      omega
    have ra : RpAll K (sx s c).src G Hc (acc.map Prod.fst) (acc.map Prod.snd) := RpAll.of_mem fun q' hq => by
      have rq := rx.zip_mem q' (pm.mem_iff.mp hq)
      exact rq.keep (fun a u e n => k1 a u e fun z => n (gS a z)) ((sx s c).frz si k1) fun a z => .inl z
    refine kk _ (q (acc.map Prod.snd) ?_) _ Hc k1 si1 (.lst hcD (fun z => ?_) ra)
    · have := pm.map Prod.snd
      rw [map_snd_zip len] at this
      exact this
    · obtain ⟨u, e⟩ := gH D z
      rw [hD0] at e; cases e
end


abbrev sp__law_pick : S1_ := pickD
abbrev sp__law_any_order : S1_ := anyD
/-! ### falls_of -/
def n_falls_of : List Str := ["row", "i"]
theorem scp_falls_of : FnScope n_falls_of ["row"] (defScope st_falls_of) := ⟨rfl, rfl, rfl, by decide +kernel, rfl, by decide +kernel, by decide +kernel⟩
def o_falls_of : Nat → Bool := fun _ => false
def sp_falls_of : S1_ := fun ds P => ∃ ns d, ds = [d] ∧ sqI ns d ∧ ns.length ≤ 1000 ∧ P (.tuple (nums (falls ns)))

def g_falls_of : FS_ := gRet (fCB sTuple (fACons (fL (fComp [1] (fRange2 (fACons (fC (.int 1)) (fACons (fCB sLen (fACons (fVar 0) fANil)) fANil))) (gVar 1) (fTest (fOp sGt (fOp sIx (fVar 0) (fOp sSub (fVar 1) (fC (.int 1)))) (fOp sIx (fVar 0) (fVar 1)))) (fVar 1))) fANil))
section
variable {P : Program} {w : World} {K : PySem.W.Frag} {mg : Str → Option Value} {base : Heap} {x : Sx}
theorem d_falls_of (M : Mgs K mg)  (f : Addr) (cdv : Value) (A : Around) (outer : List Env) (s0 : Shared) (H : Hp) (E : XK) (hgd : A.guards = some []) (hr : Room 0 (A.deeper (envOfC "falls_of" (defScope st_falls_of) s0.heap.objs.size f cdv))) :
    FSs x o_falls_of (cxF P w K mg base n_falls_of "falls_of" st_falls_of f cdv A outer s0 H E) (defBody st_falls_of) g_falls_of := by
  have S := scp_falls_of
  exact (fss_one (fs_ret (fe_callT call_tupleF s_tuple (by rfl) M.z_tuple bt_tuple (fab_cons (fb_of (fe_new (fn_comp (own := [("i", 1)]) rfl S.nd (fi_range2 (by rfl) M.z_range (fab_cons (fb_of fe_int) (fab_cons (fb_of (fe_callB call_len_seq s_len (by rfl) M.z_len bt_len (fab_cons (fb_of (fe_var 0)) fab_nil))) fab_nil))) (fun _ h => h) (blkOk_by rfl) (fun _ _ _ _ _ => (gw_name S.nd)) (fun _ _ _ _ _ => (fts_one (ft_cmp op_gt s_cmp (nomark _) (fb_of (fe_ix (fb_of (fe_var 0)) (fb_of (fe_op op_sub s_sub (fb_of (fe_var 1)) (fb_of fe_int))))) (fb_of (fe_ix (fb_of (fe_var 0)) (fb_of (fe_var 1))))))) (fun _ _ _ _ _ => (fe_var 1))))) fab_nil))))
end
theorem len_falls_of (ds : List PyData) (Q : PyData → Prop) (h : sp_falls_of ds Q) : ds.length = 1 := by
  obtain ⟨ns, d, e, _⟩ := h
  rw [e]; rfl
theorem falls_comp {ns : List Int} {d : PyData} (hd : sqI ns d) {env : Ev} {r s : Nat} (he : ∀ v : PyData, (env.set s (some v))[r]? = some (some d)) (hs : s < env.length) (P : List PyData → Prop) (hP : P (nums (falls ns))) :
    fCompL (gVar s) (fTest (fOp sGt (fOp sIx (fVar r) (fOp sSub (fVar s) (fC (.int 1)))) (fOp sIx (fVar r) (fVar s)))) (fVar s) env (rangeD 1 (ns.length - 1)) P := by
  rw [range_enc]
  refine compL_go _ (fun i => decide (ns.getD (i + 1) 0 < ns.getD i 0)) (fun (i : Nat) => .int (1 + (i : Int))) _ _ (fun i hi A B h1 h2 => ?_) ?_
  · have hi' : i < ns.length - 1 := List.mem_range.mp hi
    have e1 := at1 (ns := ns) (i := i) (by omega) (j := 1 + (i : Int) - 1) (by omega)
    have e2 := at1 (ns := ns) (i := i + 1) (by omega) (j := 1 + (i : Int)) (by omega)
    have e3 : ∀ v : PyData, (env.set s (some v))[s]? = some (some v) := fun v => List.getElem?_set_self hs
    rcases hd with rfl | rfl <;> simp only [gRet, gRetN, gIf, gSeq, gNil, gSet, gSetN, gSetT, gAug, gAugIx, gAppend, gExtend, gInsert, gSetIx, gPar, fpE, fpN, fpT, fpNil, gAsg, gExpr, fVar, fVarT, fC, fOp, fTest, fTAnd, fTOr, fTNot, fAnd, fOr, fNot, fIfE, fTup, fL, fLst, fANil, fACons, fAStar, fCB, fCN, fCall, fCallI, fIsN, fNotN, fNeg, fSl, fO0, fO1, fRevL, fRange1, fRange2, fSeq, fEnum, fZip, fLstRg, fR1, fR2, fIdx, fCnt, fCatN, fRepN, fFor, fComp, sAdd, sSub, sMul, sI2, sB2, sEq, sNe, sEqS, sNeS, sIn, sNotIn, sIx, sLt, sLe, sGt, sGe, sFdiv, sMod, sPow, sLen, sAbs, sInt, sMax2, sMin2, sList, sTuple, sSum, sAll, sAny, sSorted, sRepr, sAddI, gVar, gVarT, gTupD, gsCons, gsNil, kdOf, itemsD, wipeE, fYes, List.map_cons, List.map_nil, List.cons_append, List.nil_append, List.replicate, List.length_cons, List.length_nil, List.set_cons_zero, List.set_cons_succ, List.getElem?_cons_zero, List.getElem?_cons_succ, eqv_int, true_and, he, e3, e1, e2]
    all_goals
      cases hb : decide (ns.getD (i + 1) 0 < ns.getD i 0)
      · exact h2 hb
      · exact h1 hb
  · have e : ((List.range (ns.length - 1)).filter fun i => decide (ns.getD (i + 1) 0 < ns.getD i 0)).map (fun (i : Nat) => PyData.int (1 + (i : Int))) = nums (falls ns) := by
      unfold nums falls
      rw [List.map_map]; rfl
    rw [e]; exact hP
theorem h_falls_of (ds : List PyData) (Q : PyData → Prop) (h : sp_falls_of ds Q) : g_falls_of { nx := fun _ => Q .none, rt := Q } (ds.map some ++ List.replicate (n_falls_of.length - ds.length) none) := by
  obtain ⟨ns, d, rfl, hd, hl, q⟩ := h
  have key := falls_comp (env := [some d, none]) (r := 0) (s := 1) hd (fun _ => rfl) (show 1 < 2 by decide)
  have el : (((nums ns).length : Int) - 1).toNat = ns.length - 1 := by rw [nums_len]; omega
  have hb : (-(2 ^ 62) ≤ (1 : Int) ∧ (1 : Int) < 2 ^ 62) ∧ -(2 ^ 62) ≤ ((nums ns).length : Int) ∧ ((nums ns).length : Int) < 2 ^ 62 := by rw [nums_len]; omega
  have lr : (rangeD 1 (ns.length - 1)).length ≤ 16777216 := by rw [range_enc, List.length_map, List.length_range]; omega
  unfold g_falls_of
  rcases hd with rfl | rfl
  all_goals
    simp only [gRet, gRetN, gIf, gSeq, gNil, gSet, gSetN, gSetT, gAug, gAugIx, gAppend, gExtend, gInsert, gSetIx, gPar, fpE, fpN, fpT, fpNil, gAsg, gExpr, fVar, fVarT, fC, fOp, fTest, fTAnd, fTOr, fTNot, fAnd, fOr, fNot, fIfE, fTup, fL, fLst, fANil, fACons, fAStar, fCB, fCN, fCall, fCallI, fIsN, fNotN, fNeg, fSl, fO0, fO1, fRevL, fRange1, fRange2, fSeq, fEnum, fZip, fLstRg, fR1, fR2, fIdx, fCnt, fCatN, fRepN, fFor, fComp, sAdd, sSub, sMul, sI2, sB2, sEq, sNe, sEqS, sNeS, sIn, sNotIn, sIx, sLt, sLe, sGt, sGe, sFdiv, sMod, sPow, sLen, sAbs, sInt, sMax2, sMin2, sList, sTuple, sSum, sAll, sAny, sSorted, sRepr, sAddI, gVar, gVarT, gTupD, gsCons, gsNil, kdOf, itemsD, wipeE, fYes, List.map_cons, List.map_nil, List.cons_append, List.nil_append, List.replicate, List.length_cons, List.length_nil, List.set_cons_zero, List.set_cons_succ, List.getElem?_cons_zero, List.getElem?_cons_succ, eqv_int, true_and, n_falls_of]
    refine ⟨hb, ?_⟩
    rw [el]
    exact ⟨lr, key _ q⟩

theorem ok_falls_of {P : Program} {w : World} {K : PySem.W.Frag} {mg : Str → Option Value} {base : Heap} {x : Sx} (M : Mgs K mg)  : Cal P w K mg base 1 "falls_of" (spF K x sp_falls_of) :=
  calF M.d_falls_of scp_falls_of (by decide) (by decide) len_falls_of (d_falls_of M ) h_falls_of
/-! ### inversion_code -/
def n_inversion_code : List Str := ["row", "k", "one"]
theorem scp_inversion_code : FnScope n_inversion_code ["row"] (defScope st_inversion_code) := ⟨rfl, rfl, rfl, by decide +kernel, rfl, by decide +kernel, by decide +kernel⟩
def o_inversion_code : Nat → Bool := fun _ => false
def sp_inversion_code : S1_ := fun ds P => ∃ n ns, ds = [.tuple (nums ns)] ∧ Row n ns ∧ n ≤ 1000 ∧ P (.tuple (nums (icode ns)))

def g_inversion_code : FS_ := gRet (fCB sTuple (fACons (fL (fComp [1] (fRange1 (fACons (fCB sLen (fACons (fVar 0) fANil)) fANil)) (gVar 1) (fYes) (fCB sLen (fACons (fL (fComp [2] (fSeq (fSl (fVar 0) (fO1 (fIdx (fVar 0) (fVar 1))) (fO0))) (gVar 2) (fTest (fOp sLt (fVar 2) (fVar 1))) (fVar 2))) fANil)))) fANil))
section
variable {P : Program} {w : World} {K : PySem.W.Frag} {mg : Str → Option Value} {base : Heap} {x : Sx}
theorem d_inversion_code (M : Mgs K mg)  (f : Addr) (cdv : Value) (A : Around) (outer : List Env) (s0 : Shared) (H : Hp) (E : XK) (hgd : A.guards = some []) (hr : Room 0 (A.deeper (envOfC "inversion_code" (defScope st_inversion_code) s0.heap.objs.size f cdv))) :
    FSs x o_inversion_code (cxF P w K mg base n_inversion_code "inversion_code" st_inversion_code f cdv A outer s0 H E) (defBody st_inversion_code) g_inversion_code := by
  have S := scp_inversion_code
  exact (fss_one (fs_ret (fe_callT call_tupleF s_tuple (by rfl) M.z_tuple bt_tuple (fab_cons (fb_of (fe_new (fn_comp (own := [("k", 1)]) rfl S.nd (fi_range1 (by rfl) M.z_range (fab_cons (fb_of (fe_callB call_len_seq s_len (by rfl) M.z_len bt_len (fab_cons (fb_of (fe_var 0)) fab_nil))) fab_nil)) (fun _ h => h) (blkOk_by rfl) (fun _ _ _ _ _ => (gw_name S.nd)) (fun _ _ _ _ _ => fts_nil) (fun _ _ _ _ _ => (fe_callB call_len_seq s_len (by rfl) M.z_len bt_len (fab_cons (fb_of (fe_new (fn_comp (own := [("one", 2)]) rfl S.nd (fi_seqB (fb_of (fe_slice (fb_of (fe_var 0)) (fo_some (fb_of (fe_tidx (fb_of (fe_var 0)) (fb_of (fe_var 1))))) fo_none))) (fun _ h => h) (blkOk_by rfl) (fun _ _ _ _ _ => (gw_name S.nd)) (fun _ _ _ _ _ => (fts_one (ft_cmp op_lt s_cmp (nomark _) (fb_of (fe_var 2)) (fb_of (fe_var 1))))) (fun _ _ _ _ _ => (fe_var 2))))) fab_nil)))))) fab_nil))))
end
theorem len_inversion_code (ds : List PyData) (Q : PyData → Prop) (h : sp_inversion_code ds Q) : ds.length = 1 := by
  obtain ⟨n, ns, e, _⟩ := h
  rw [e]; rfl
theorem h_inversion_code (ds : List PyData) (Q : PyData → Prop) (h : sp_inversion_code ds Q) : g_inversion_code { nx := fun _ => Q .none, rt := Q } (ds.map some ++ List.replicate (n_inversion_code.length - ds.length) none) := by
  obtain ⟨n, ns, rfl, hr, hl, q⟩ := h
  have hlen := hr.len
  have hb : (-(2 ^ 62) ≤ ((nums ns).length : Int) ∧ ((nums ns).length : Int) < 2 ^ 62) := by rw [nums_len]; omega
  have el : ((nums ns).length : Int).toNat = ns.length := by rw [nums_len]; omega
  have lr : (rangeD 0 ns.length).length ≤ 16777216 := by rw [range_enc, List.length_map, List.length_range]; omega
  unfold g_inversion_code
  simp only [gRet, gRetN, gIf, gSeq, gNil, gSet, gSetN, gSetT, gAug, gAugIx, gAppend, gExtend, gInsert, gSetIx, gPar, fpE, fpN, fpT, fpNil, gAsg, gExpr, fVar, fVarT, fC, fOp, fTest, fTAnd, fTOr, fTNot, fAnd, fOr, fNot, fIfE, fTup, fL, fLst, fANil, fACons, fAStar, fCB, fCN, fCall, fCallI, fIsN, fNotN, fNeg, fSl, fO0, fO1, fRevL, fRange1, fRange2, fSeq, fEnum, fZip, fLstRg, fR1, fR2, fIdx, fCnt, fCatN, fRepN, fFor, fComp, sAdd, sSub, sMul, sI2, sB2, sEq, sNe, sEqS, sNeS, sIn, sNotIn, sIx, sLt, sLe, sGt, sGe, sFdiv, sMod, sPow, sLen, sAbs, sInt, sMax2, sMin2, sList, sTuple, sSum, sAll, sAny, sSorted, sRepr, sAddI, gVar, gVarT, gTupD, gsCons, gsNil, kdOf, itemsD, wipeE, fYes, List.map_cons, List.map_nil, List.cons_append, List.nil_append, List.replicate, List.length_cons, List.length_nil, List.set_cons_zero, List.set_cons_succ, List.getElem?_cons_zero, List.getElem?_cons_succ, eqv_int, true_and, n_inversion_code]
  refine ⟨hb, ?_⟩
  rw [el]
  refine ⟨lr, ?_⟩
  rw [range_enc]
  refine compL_map _ (fun (k : Nat) => .int (icAt ns k)) _ _ (fun k hk A hA => ?_) ?_
  · have hk' := List.mem_range.mp hk
    have hm : (0 + (k : Int)) ∈ ns := (hr.mem _).mpr (by omega)
    have e0 : (0 + (k : Int)) = k := by omega
    simp only [gRet, gRetN, gIf, gSeq, gNil, gSet, gSetN, gSetT, gAug, gAugIx, gAppend, gExtend, gInsert, gSetIx, gPar, fpE, fpN, fpT, fpNil, gAsg, gExpr, fVar, fVarT, fC, fOp, fTest, fTAnd, fTOr, fTNot, fAnd, fOr, fNot, fIfE, fTup, fL, fLst, fANil, fACons, fAStar, fCB, fCN, fCall, fCallI, fIsN, fNotN, fNeg, fSl, fO0, fO1, fRevL, fRange1, fRange2, fSeq, fEnum, fZip, fLstRg, fR1, fR2, fIdx, fCnt, fCatN, fRepN, fFor, fComp, sAdd, sSub, sMul, sI2, sB2, sEq, sNe, sEqS, sNeS, sIn, sNotIn, sIx, sLt, sLe, sGt, sGe, sFdiv, sMod, sPow, sLen, sAbs, sInt, sMax2, sMin2, sList, sTuple, sSum, sAll, sAny, sSorted, sRepr, sAddI, gVar, gVarT, gTupD, gsCons, gsNil, kdOf, itemsD, wipeE, fYes, List.map_cons, List.map_nil, List.cons_append, List.nil_append, List.replicate, List.length_cons, List.length_nil, List.set_cons_zero, List.set_cons_succ, List.getElem?_cons_zero, List.getElem?_cons_succ, eqv_int, true_and, intsOf_nums]
    refine ⟨hm, ?_⟩
    rw [e0, cut_drop ns List.idxOf_le_length]
    refine ⟨by rw [nums_len, List.length_drop]; omega, ?_⟩
    unfold nums
    refine compL_go _ (fun y => decide (y < (k : Int))) (fun y => .int y) _ _ (fun y hy A2 B2 h1 h2 => ?_) ?_
    · simp only [gRet, gRetN, gIf, gSeq, gNil, gSet, gSetN, gSetT, gAug, gAugIx, gAppend, gExtend, gInsert, gSetIx, gPar, fpE, fpN, fpT, fpNil, gAsg, gExpr, fVar, fVarT, fC, fOp, fTest, fTAnd, fTOr, fTNot, fAnd, fOr, fNot, fIfE, fTup, fL, fLst, fANil, fACons, fAStar, fCB, fCN, fCall, fCallI, fIsN, fNotN, fNeg, fSl, fO0, fO1, fRevL, fRange1, fRange2, fSeq, fEnum, fZip, fLstRg, fR1, fR2, fIdx, fCnt, fCatN, fRepN, fFor, fComp, sAdd, sSub, sMul, sI2, sB2, sEq, sNe, sEqS, sNeS, sIn, sNotIn, sIx, sLt, sLe, sGt, sGe, sFdiv, sMod, sPow, sLen, sAbs, sInt, sMax2, sMin2, sList, sTuple, sSum, sAll, sAny, sSorted, sRepr, sAddI, gVar, gVarT, gTupD, gsCons, gsNil, kdOf, itemsD, wipeE, fYes, List.map_cons, List.map_nil, List.cons_append, List.nil_append, List.replicate, List.length_cons, List.length_nil, List.set_cons_zero, List.set_cons_succ, List.getElem?_cons_zero, List.getElem?_cons_succ, eqv_int, true_and]
      cases hd : decide (y < (k : Int))
      · exact h2 hd
      · exact h1 hd
    · simp only [gRet, gRetN, gIf, gSeq, gNil, gSet, gSetN, gSetT, gAug, gAugIx, gAppend, gExtend, gInsert, gSetIx, gPar, fpE, fpN, fpT, fpNil, gAsg, gExpr, fVar, fVarT, fC, fOp, fTest, fTAnd, fTOr, fTNot, fAnd, fOr, fNot, fIfE, fTup, fL, fLst, fANil, fACons, fAStar, fCB, fCN, fCall, fCallI, fIsN, fNotN, fNeg, fSl, fO0, fO1, fRevL, fRange1, fRange2, fSeq, fEnum, fZip, fLstRg, fR1, fR2, fIdx, fCnt, fCatN, fRepN, fFor, fComp, sAdd, sSub, sMul, sI2, sB2, sEq, sNe, sEqS, sNeS, sIn, sNotIn, sIx, sLt, sLe, sGt, sGe, sFdiv, sMod, sPow, sLen, sAbs, sInt, sMax2, sMin2, sList, sTuple, sSum, sAll, sAny, sSorted, sRepr, sAddI, gVar, gVarT, gTupD, gsCons, gsNil, kdOf, itemsD, wipeE, fYes, List.map_cons, List.map_nil, List.cons_append, List.nil_append, List.replicate, List.length_cons, List.length_nil, List.set_cons_zero, List.set_cons_succ, List.getElem?_cons_zero, List.getElem?_cons_succ, eqv_int, true_and, List.length_map]
      exact hA
  · have e : (List.range ns.length).map (fun (k : Nat) => PyData.int (icAt ns k)) = nums (icode ns) := by
      unfold nums icode
      rw [List.map_map]; rfl
    rw [e]; exact q

theorem ok_inversion_code {P : Program} {w : World} {K : PySem.W.Frag} {mg : Str → Option Value} {base : Heap} {x : Sx} (M : Mgs K mg)  : Cal P w K mg base 1 "inversion_code" (spF K x sp_inversion_code) :=
  calF M.d_inversion_code scp_inversion_code (by decide) (by decide) len_inversion_code (d_inversion_code M ) h_inversion_code
/-! ### row_by_inversions -/
def n_row_by_inversions : List Str := ["code", "found", "k", "many"]
theorem scp_row_by_inversions : FnScope n_row_by_inversions ["code"] (defScope st_row_by_inversions) := ⟨rfl, rfl, rfl, by decide +kernel, rfl, by decide +kernel, by decide +kernel⟩
def o_row_by_inversions : Nat → Bool := fun i => i == 1
def sp_row_by_inversions : S1_ := fun ds P => ∃ code, ds = [.tuple (nums code)] ∧ Code code ∧ code.length ≤ 1000 ∧ P (.tuple (nums (build posI 0 [] code)))

def g_row_by_inversions : FS_ := gSeq (gSetN 1 (fLst fANil)) (gSeq (fFor (fEnum (fACons (fVar 0) fANil)) (gTupD 2 (gsCons (gVar 2) (gsCons (gVar 3) gsNil))) (gInsert 1 (fOp sSub (fVar 2) (fVar 3)) (fVar 2))) (gRet (fCB sTuple (fACons (fVar 1) fANil))))
section
variable {P : Program} {w : World} {K : PySem.W.Frag} {mg : Str → Option Value} {base : Heap} {x : Sx}
theorem d_row_by_inversions (M : Mgs K mg)  (f : Addr) (cdv : Value) (A : Around) (outer : List Env) (s0 : Shared) (H : Hp) (E : XK) (hgd : A.guards = some []) (hr : Room 0 (A.deeper (envOfC "row_by_inversions" (defScope st_row_by_inversions) s0.heap.objs.size f cdv))) :
    FSs x o_row_by_inversions (cxF P w K mg base n_row_by_inversions "row_by_inversions" st_row_by_inversions f cdv A outer s0 H E) (defBody st_row_by_inversions) g_row_by_inversions := by
  have S := scp_row_by_inversions
  exact (fss_cons (fs_own (i := 1) S.nd (fn_lst fa_nil))
    (fss_cons (fs_for PassesOwn.never rfl (fi_enum (by rfl) M.z_enumerate (fa_cons (fe_var 0) fa_nil)) (gw_tup rfl (gs_cons (gw_name S.nd) (gs_cons (gw_name S.nd) gs_nil))) (fss_one (fs_insert (i := 1) (fb_of (fe_op op_sub s_sub (fb_of (fe_var 2)) (fb_of (fe_var 3)))) (fe_var 2))))
    (fss_one (fs_ret (fe_callT call_tupleF s_tuple (by rfl) M.z_tuple bt_tuple (fab_cons (fb_own 1) fab_nil))))))
end
theorem len_row_by_inversions (ds : List PyData) (Q : PyData → Prop) (h : sp_row_by_inversions ds Q) : ds.length = 1 := by
  obtain ⟨n, e, _⟩ := h
  rw [e]; rfl
theorem h_row_by_inversions (ds : List PyData) (Q : PyData → Prop) (h : sp_row_by_inversions ds Q) : g_row_by_inversions { nx := fun _ => Q .none, rt := Q } (ds.map some ++ List.replicate (n_row_by_inversions.length - ds.length) none) := by
  obtain ⟨code, rfl, hc, hl, q⟩ := h
  unfold g_row_by_inversions
  simp only [gRet, gRetN, gIf, gSeq, gNil, gSet, gSetN, gSetT, gAug, gAugIx, gAppend, gExtend, gInsert, gSetIx, gPar, fpE, fpN, fpT, fpNil, gAsg, gExpr, fVar, fVarT, fC, fOp, fTest, fTAnd, fTOr, fTNot, fAnd, fOr, fNot, fIfE, fTup, fL, fLst, fANil, fACons, fAStar, fCB, fCN, fCall, fCallI, fIsN, fNotN, fNeg, fSl, fO0, fO1, fRevL, fRange1, fRange2, fSeq, fEnum, fZip, fLstRg, fR1, fR2, fIdx, fCnt, fCatN, fRepN, fFor, fComp, sAdd, sSub, sMul, sI2, sB2, sEq, sNe, sEqS, sNeS, sIn, sNotIn, sIx, sLt, sLe, sGt, sGe, sFdiv, sMod, sPow, sLen, sAbs, sInt, sMax2, sMin2, sList, sTuple, sSum, sAll, sAny, sSorted, sRepr, sAddI, gVar, gVarT, gTupD, gsCons, gsNil, kdOf, itemsD, wipeE, fYes, List.map_cons, List.map_nil, List.cons_append, List.nil_append, List.replicate, List.length_cons, List.length_nil, List.set_cons_zero, List.set_cons_succ, List.getElem?_cons_zero, List.getElem?_cons_succ, eqv_int, true_and, n_row_by_inversions]
  refine ⟨by decide, ?_⟩
  unfold nums
  rw [enum_enc]
  refine loop_go _ (fun rest env => ∃ j found a2 a3, code.zipIdx.drop j = rest ∧ j ≤ code.length ∧ Row j found ∧ build posI j found (code.drop j) = build posI 0 [] code ∧ env = [some (.tuple (nums code)), some (.list (nums found)), a2, a3]) ?_ ?_ _ _ ⟨0, [], none, none, rfl, Nat.zero_le _, row0, rfl, rfl⟩
  · rintro a r env ⟨j, found, a2, a3, h1, h2, h3, h4, rfl⟩ k' hk
    obtain ⟨hj, rfl, hr2⟩ := drop_zip h1
    have hcj := hc j hj
    have hf := h3.len
    simp only [gRet, gRetN, gIf, gSeq, gNil, gSet, gSetN, gSetT, gAug, gAugIx, gAppend, gExtend, gInsert, gSetIx, gPar, fpE, fpN, fpT, fpNil, gAsg, gExpr, fVar, fVarT, fC, fOp, fTest, fTAnd, fTOr, fTNot, fAnd, fOr, fNot, fIfE, fTup, fL, fLst, fANil, fACons, fAStar, fCB, fCN, fCall, fCallI, fIsN, fNotN, fNeg, fSl, fO0, fO1, fRevL, fRange1, fRange2, fSeq, fEnum, fZip, fLstRg, fR1, fR2, fIdx, fCnt, fCatN, fRepN, fFor, fComp, sAdd, sSub, sMul, sI2, sB2, sEq, sNe, sEqS, sNeS, sIn, sNotIn, sIx, sLt, sLe, sGt, sGe, sFdiv, sMod, sPow, sLen, sAbs, sInt, sMax2, sMin2, sList, sTuple, sSum, sAll, sAny, sSorted, sRepr, sAddI, gVar, gVarT, gTupD, gsCons, gsNil, kdOf, itemsD, wipeE, fYes, List.map_cons, List.map_nil, List.cons_append, List.nil_append, List.replicate, List.length_cons, List.length_nil, List.set_cons_zero, List.set_cons_succ, List.getElem?_cons_zero, List.getElem?_cons_succ, eqv_int, true_and]
    refine ⟨⟨by rw [nums_len]; omega, by omega, by omega⟩, ?_⟩
    rw [List.drop_eq_getElem_cons hj, build_cons] at h4
    have e1 : posI found code[j] = ((j : Int) - code[j]).toNat := by unfold posI; rw [hf]
    rw [← e1, nums_ins]
    exact hk _ ⟨j + 1, _, _, _, hr2, by omega, ins_row h3 _, h4, rfl⟩
  · rintro env ⟨j, found, a2, a3, h1, h2, h3, h4, rfl⟩
    have hj := drop_zip_nil h1
    rw [List.drop_of_length_le hj, build_nil] at h4
    simp only [gRet, gRetN, gIf, gSeq, gNil, gSet, gSetN, gSetT, gAug, gAugIx, gAppend, gExtend, gInsert, gSetIx, gPar, fpE, fpN, fpT, fpNil, gAsg, gExpr, fVar, fVarT, fC, fOp, fTest, fTAnd, fTOr, fTNot, fAnd, fOr, fNot, fIfE, fTup, fL, fLst, fANil, fACons, fAStar, fCB, fCN, fCall, fCallI, fIsN, fNotN, fNeg, fSl, fO0, fO1, fRevL, fRange1, fRange2, fSeq, fEnum, fZip, fLstRg, fR1, fR2, fIdx, fCnt, fCatN, fRepN, fFor, fComp, sAdd, sSub, sMul, sI2, sB2, sEq, sNe, sEqS, sNeS, sIn, sNotIn, sIx, sLt, sLe, sGt, sGe, sFdiv, sMod, sPow, sLen, sAbs, sInt, sMax2, sMin2, sList, sTuple, sSum, sAll, sAny, sSorted, sRepr, sAddI, gVar, gVarT, gTupD, gsCons, gsNil, kdOf, itemsD, wipeE, fYes, List.map_cons, List.map_nil, List.cons_append, List.nil_append, List.replicate, List.length_cons, List.length_nil, List.set_cons_zero, List.set_cons_succ, List.getElem?_cons_zero, List.getElem?_cons_succ, eqv_int, true_and]
    rw [h4]
    exact q

theorem ok_row_by_inversions {P : Program} {w : World} {K : PySem.W.Frag} {mg : Str → Option Value} {base : Heap} {x : Sx} (M : Mgs K mg)  : Cal P w K mg base 1 "row_by_inversions" (spF K x sp_row_by_inversions) :=
  calF M.d_row_by_inversions scp_row_by_inversions (by decide) (by decide) len_row_by_inversions (d_row_by_inversions M ) h_row_by_inversions
/-! ### index_row -/
def n_index_row : List Str := ["n", "found", "k", "late", "i", "number", "more"]
theorem scp_index_row : FnScope n_index_row ["n"] (defScope st_index_row) := ⟨rfl, rfl, rfl, by decide +kernel, rfl, by decide +kernel, by decide +kernel⟩
def o_index_row : Nat → Bool := fun i => i == 3
/-- number added at the places i .. i + m - 1 -/
def addAt (number : Int) (i : Nat) : Nat → List Int → List Int
  | 0, late => late
  | m + 1, late => (addAt number i m late).set (i + m) ((addAt number i m late).getD (i + m) 0 + number)
def addAll (k : Nat) : Nat → List Int → List Int → List Int
  | _, [], late => late
  | i, x :: r, late => addAll k (i + 1) r (addAt x i (k + 1) late)
def irow : Nat → List Int
  | 0 => [1]
  | m + 1 => addAll (m + 1) 0 (irow m) (List.replicate ((irow m).length + (m + 1)) 0)
theorem addAt_len (x : Int) (i : Nat) (late : List Int) : ∀ m, (addAt x i m late).length = late.length
  | 0 => rfl
  | m + 1 => by
    show (List.set _ _ _).length = _
    rw [List.length_set, addAt_len x i late m]
theorem addAll_len (k : Nat) : ∀ (r : List Int) (i : Nat) (late : List Int), (addAll k i r late).length = late.length
  | [], _, _ => rfl
  | x :: r, i, late => by
    show (addAll k (i + 1) r _).length = _
    rw [addAll_len k r, addAt_len]
theorem irow_len : ∀ m, (irow m).length = m * (m + 1) / 2 + 1
  | 0 => rfl
  | m + 1 => by
    show (addAll _ _ _ _).length = _
    rw [addAll_len, List.length_replicate, irow_len m]
    have e : (m + 1) * (m + 1 + 1) = m * (m + 1) + 2 * (m + 1) := by
      rw [Nat.mul_comm (m + 1) (m + 1 + 1), show m + 1 + 1 = m + 2 from rfl, Nat.add_mul]
    rw [e]
    omega
def sp_index_row : S1_ := fun ds P => ∃ n : Nat, ds = [.int (n : Int)] ∧ 1 ≤ n ∧ n ≤ 12 ∧ P (.tuple (nums (irow (n - 1))))
theorem nums_set (l : List Int) (i : Nat) (x : Int) : (nums l).set i (.int x) = nums (l.set i x) := by
  unfold nums
  rw [List.map_set]
theorem nums_rep (n : Nat) : (List.replicate n ([PyData.int 0] : List PyData)).flatten = nums (List.replicate n 0) := by
  unfold nums
  induction n with
  | zero => rfl
  | succ n ih => rw [List.replicate_succ, List.flatten_cons, ih, List.replicate_succ, List.map_cons]; rfl
theorem irow_small (m : Nat) (h : m ≤ 11) : (irow m).length ≤ 67 := by
  rw [irow_len]
  have : m * (m + 1) ≤ 11 * 12 := Nat.mul_le_mul h (by omega)
  omega

def g_index_row : FS_ := gSeq (gSet 1 (fL (fLst (fACons (fC (.int 1)) fANil)))) (gSeq (fFor (fRange2 (fACons (fC (.int 1)) (fACons (fVar 0) fANil))) (gVar 2) (gSeq (gSetN 3 (fRepN (fL (fLst (fACons (fC (.int 0)) fANil))) (fOp sAdd (fCB sLen (fACons (fVar 1) fANil)) (fVar 2)))) (gSeq (fFor (fEnum (fACons (fVar 1) fANil)) (gTupD 2 (gsCons (gVar 4) (gsCons (gVar 5) gsNil))) (fFor (fRange1 (fACons (fOp sAdd (fVar 2) (fC (.int 1))) fANil)) (gVar 6) (gAugIx 3 (fOp sAdd (fVar 4) (fVar 6)) (fVar 5)))) (gSet 1 (fL (fCN sList (fACons (fVar 3) fANil))))))) (gRet (fCB sTuple (fACons (fVar 1) fANil))))
section
variable {P : Program} {w : World} {K : PySem.W.Frag} {mg : Str → Option Value} {base : Heap} {x : Sx}
theorem d_index_row (M : Mgs K mg)  (f : Addr) (cdv : Value) (A : Around) (outer : List Env) (s0 : Shared) (H : Hp) (E : XK) (hgd : A.guards = some []) (hr : Room 0 (A.deeper (envOfC "index_row" (defScope st_index_row) s0.heap.objs.size f cdv))) :
    FSs x o_index_row (cxF P w K mg base n_index_row "index_row" st_index_row f cdv A outer s0 H E) (defBody st_index_row) g_index_row := by
  have S := scp_index_row
  exact (fss_cons (fs_set (i := 1) S.nd (fe_new (fn_lst (fa_cons fe_int fa_nil))))
    (fss_cons (fs_for PassesOwn.never rfl (fi_range2 (by rfl) M.z_range (fab_cons (fb_of fe_int) (fab_cons (fb_of (fe_var 0)) fab_nil))) (gw_name S.nd) (fss_cons (fs_own (i := 3) S.nd (fn_rep (fb_of (fe_new (fn_lst (fa_cons fe_int fa_nil)))) (fb_of (fe_op op_addAll s_add (fb_of (fe_callB call_len_seq s_len (by rfl) M.z_len bt_len (fab_cons (fb_of (fe_var 1)) fab_nil))) (fb_of (fe_var 2))))))
    (fss_cons (fs_for PassesOwn.never rfl (fi_enum (by rfl) M.z_enumerate (fa_cons (fe_var 1) fa_nil)) (gw_tup rfl (gs_cons (gw_name S.nd) (gs_cons (gw_name S.nd) gs_nil))) (fss_one (fs_for PassesOwn.never rfl (fi_range1 (by rfl) M.z_range (fab_cons (fb_of (fe_op op_addAll s_add (fb_of (fe_var 2)) (fb_of fe_int))) fab_nil)) (gw_name S.nd) (fss_one (fs_augIx (i := 3) (fb_of (fe_op op_addAll s_add (fb_of (fe_var 4)) (fb_of (fe_var 6)))) (fb_of (fe_var 5)))))))
    (fss_one (fs_set (i := 1) S.nd (fe_new (fn_callT call_list_of s_list (by rfl) M.z_list bt_list (fab_cons (fb_own 3) fab_nil))))))))
    (fss_one (fs_ret (fe_callT call_tupleF s_tuple (by rfl) M.z_tuple bt_tuple (fab_cons (fb_of (fe_var 1)) fab_nil))))))
end
theorem len_index_row (ds : List PyData) (Q : PyData → Prop) (h : sp_index_row ds Q) : ds.length = 1 := by
  obtain ⟨n, e, _⟩ := h
  rw [e]; rfl
theorem h_index_row (ds : List PyData) (Q : PyData → Prop) (h : sp_index_row ds Q) : g_index_row { nx := fun _ => Q .none, rt := Q } (ds.map some ++ List.replicate (n_index_row.length - ds.length) none) := by
  obtain ⟨n, rfl, n1, n2, q⟩ := h
  unfold g_index_row
  simp only [gRet, gRetN, gIf, gSeq, gNil, gSet, gSetN, gSetT, gAug, gAugIx, gAppend, gExtend, gInsert, gSetIx, gPar, fpE, fpN, fpT, fpNil, gAsg, gExpr, fVar, fVarT, fC, fOp, fTest, fTAnd, fTOr, fTNot, fAnd, fOr, fNot, fIfE, fTup, fL, fLst, fANil, fACons, fAStar, fCB, fCN, fCall, fCallI, fIsN, fNotN, fNeg, fSl, fO0, fO1, fRevL, fRange1, fRange2, fSeq, fEnum, fZip, fLstRg, fR1, fR2, fIdx, fCnt, fCatN, fRepN, fFor, fComp, sAdd, sSub, sMul, sI2, sB2, sEq, sNe, sEqS, sNeS, sIn, sNotIn, sIx, sLt, sLe, sGt, sGe, sFdiv, sMod, sPow, sLen, sAbs, sInt, sMax2, sMin2, sList, sTuple, sSum, sAll, sAny, sSorted, sRepr, sAddI, gVar, gVarT, gTupD, gsCons, gsNil, kdOf, itemsD, wipeE, fYes, List.map_cons, List.map_nil, List.cons_append, List.nil_append, List.replicate, List.length_cons, List.length_nil, List.set_cons_zero, List.set_cons_succ, List.getElem?_cons_zero, List.getElem?_cons_succ, eqv_int, true_and, n_index_row]
  refine ⟨by decide, ⟨⟨by decide, by decide⟩, by omega, by omega⟩, ?_⟩
  have e0 : ((n : Int) - 1).toNat = n - 1 := by omega
  rw [e0, range_enc]
  refine loop_go _ (fun rest env => ∃ j a2 b4 a4 a5 a6, (List.range (n - 1)).drop j = rest ∧ j ≤ n - 1 ∧ env = [some (.int (n : Int)), some (.list (nums (irow j))), a2, b4, a4, a5, a6]) ?_ ?_ _ _ ⟨0, none, none, none, none, none, rfl, Nat.zero_le _, rfl⟩
  · rintro a r env ⟨j, a2, b4, a4, a5, a6, h1, h2, rfl⟩ k' hk
    obtain ⟨rfl, hj, hr2⟩ := drop_range h1
    have il := irow_small a (by omega)
    simp only [gRet, gRetN, gIf, gSeq, gNil, gSet, gSetN, gSetT, gAug, gAugIx, gAppend, gExtend, gInsert, gSetIx, gPar, fpE, fpN, fpT, fpNil, gAsg, gExpr, fVar, fVarT, fC, fOp, fTest, fTAnd, fTOr, fTNot, fAnd, fOr, fNot, fIfE, fTup, fL, fLst, fANil, fACons, fAStar, fCB, fCN, fCall, fCallI, fIsN, fNotN, fNeg, fSl, fO0, fO1, fRevL, fRange1, fRange2, fSeq, fEnum, fZip, fLstRg, fR1, fR2, fIdx, fCnt, fCatN, fRepN, fFor, fComp, sAdd, sSub, sMul, sI2, sB2, sEq, sNe, sEqS, sNeS, sIn, sNotIn, sIx, sLt, sLe, sGt, sGe, sFdiv, sMod, sPow, sLen, sAbs, sInt, sMax2, sMin2, sList, sTuple, sSum, sAll, sAny, sSorted, sRepr, sAddI, gVar, gVarT, gTupD, gsCons, gsNil, kdOf, itemsD, wipeE, fYes, List.map_cons, List.map_nil, List.cons_append, List.nil_append, List.replicate, List.length_cons, List.length_nil, List.set_cons_zero, List.set_cons_succ, List.getElem?_cons_zero, List.getElem?_cons_succ, eqv_int, true_and]
    rw [nums_len]
    refine ⟨by decide, ⟨by omega, by omega, by omega⟩, ?_⟩
    have e1 : (((irow a).length : Int) + (1 + (a : Int))).toNat = (irow a).length + (a + 1) := by omega
    rw [e1, nums_rep]
    have en : enumD (nums (irow a)) = (irow a).zipIdx.map fun p => PyData.tuple [.int (p.2 : Nat), .int p.1] := enum_enc PyData.int (irow a)
    rw [en]
    refine loop_go _ (fun rest env => ∃ j a4 a5 a6 late, (irow a).zipIdx.drop j = rest ∧ late.length = (irow a).length + (a + 1) ∧ addAll (a + 1) j ((irow a).drop j) late = irow (a + 1) ∧ env = [some (.int (n : Int)), some (.list (nums (irow a))), some (.int (1 + (a : Int))), some (.list (nums late)), a4, a5, a6]) ?_ ?_ _ _ ⟨0, a4, a5, a6, List.replicate ((irow a).length + (a + 1)) 0, rfl, by rw [List.length_replicate], rfl, rfl⟩
    · rintro p r3 env ⟨j, a4, a5, a6, late, h1, hl, h3, rfl⟩ k2 hk2
      obtain ⟨hjl, rfl, hr3⟩ := drop_zip h1
      rw [List.drop_eq_getElem_cons hjl] at h3
      simp only [gRet, gRetN, gIf, gSeq, gNil, gSet, gSetN, gSetT, gAug, gAugIx, gAppend, gExtend, gInsert, gSetIx, gPar, fpE, fpN, fpT, fpNil, gAsg, gExpr, fVar, fVarT, fC, fOp, fTest, fTAnd, fTOr, fTNot, fAnd, fOr, fNot, fIfE, fTup, fL, fLst, fANil, fACons, fAStar, fCB, fCN, fCall, fCallI, fIsN, fNotN, fNeg, fSl, fO0, fO1, fRevL, fRange1, fRange2, fSeq, fEnum, fZip, fLstRg, fR1, fR2, fIdx, fCnt, fCatN, fRepN, fFor, fComp, sAdd, sSub, sMul, sI2, sB2, sEq, sNe, sEqS, sNeS, sIn, sNotIn, sIx, sLt, sLe, sGt, sGe, sFdiv, sMod, sPow, sLen, sAbs, sInt, sMax2, sMin2, sList, sTuple, sSum, sAll, sAny, sSorted, sRepr, sAddI, gVar, gVarT, gTupD, gsCons, gsNil, kdOf, itemsD, wipeE, fYes, List.map_cons, List.map_nil, List.cons_append, List.nil_append, List.replicate, List.length_cons, List.length_nil, List.set_cons_zero, List.set_cons_succ, List.getElem?_cons_zero, List.getElem?_cons_succ, eqv_int, true_and]
      refine ⟨⟨by omega, by omega⟩, ?_⟩
      have e2 : (1 + (a : Int) + 1).toNat = a + 2 := by omega
      rw [e2, range_enc]
      refine loop_go _ (fun rest env => ∃ m a6, (List.range (a + 2)).drop m = rest ∧ m ≤ a + 2 ∧ env = [some (.int (n : Int)), some (.list (nums (irow a))), some (.int (1 + (a : Int))), some (.list (nums (addAt (irow a)[j] j m late))), some (.int (j : Nat)), some (.int (irow a)[j]), a6]) ?_ ?_ _ _ ⟨0, a6, rfl, Nat.zero_le _, rfl⟩
      · rintro m r4 env ⟨m', a6, h1, h2, rfl⟩ k3 hk3
        obtain ⟨rfl, hm, hr4⟩ := drop_range h1
        have al := addAt_len (irow a)[j] j late m
        have hlt : j + m < (addAt (irow a)[j] j m late).length := by omega
        have hix : ixN (nums (addAt (irow a)[j] j m late)).length ((j : Int) + (0 + (m : Int))) = some (j + m) := by
          rw [show ((j : Int) + (0 + (m : Int))) = ((j + m : Nat) : Int) by omega]
          exact ixN_nat (by rw [nums_len]; exact hlt)
        simp only [gRet, gRetN, gIf, gSeq, gNil, gSet, gSetN, gSetT, gAug, gAugIx, gAppend, gExtend, gInsert, gSetIx, gPar, fpE, fpN, fpT, fpNil, gAsg, gExpr, fVar, fVarT, fC, fOp, fTest, fTAnd, fTOr, fTNot, fAnd, fOr, fNot, fIfE, fTup, fL, fLst, fANil, fACons, fAStar, fCB, fCN, fCall, fCallI, fIsN, fNotN, fNeg, fSl, fO0, fO1, fRevL, fRange1, fRange2, fSeq, fEnum, fZip, fLstRg, fR1, fR2, fIdx, fCnt, fCatN, fRepN, fFor, fComp, sAdd, sSub, sMul, sI2, sB2, sEq, sNe, sEqS, sNeS, sIn, sNotIn, sIx, sLt, sLe, sGt, sGe, sFdiv, sMod, sPow, sLen, sAbs, sInt, sMax2, sMin2, sList, sTuple, sSum, sAll, sAny, sSorted, sRepr, sAddI, gVar, gVarT, gTupD, gsCons, gsNil, kdOf, itemsD, wipeE, fYes, List.map_cons, List.map_nil, List.cons_append, List.nil_append, List.replicate, List.length_cons, List.length_nil, List.set_cons_zero, List.set_cons_succ, List.getElem?_cons_zero, List.getElem?_cons_succ, eqv_int, true_and]
        rw [at1 hlt (j := (j : Int) + (0 + (m : Int))) (by omega), hix]
        simp only [gRet, gRetN, gIf, gSeq, gNil, gSet, gSetN, gSetT, gAug, gAugIx, gAppend, gExtend, gInsert, gSetIx, gPar, fpE, fpN, fpT, fpNil, gAsg, gExpr, fVar, fVarT, fC, fOp, fTest, fTAnd, fTOr, fTNot, fAnd, fOr, fNot, fIfE, fTup, fL, fLst, fANil, fACons, fAStar, fCB, fCN, fCall, fCallI, fIsN, fNotN, fNeg, fSl, fO0, fO1, fRevL, fRange1, fRange2, fSeq, fEnum, fZip, fLstRg, fR1, fR2, fIdx, fCnt, fCatN, fRepN, fFor, fComp, sAdd, sSub, sMul, sI2, sB2, sEq, sNe, sEqS, sNeS, sIn, sNotIn, sIx, sLt, sLe, sGt, sGe, sFdiv, sMod, sPow, sLen, sAbs, sInt, sMax2, sMin2, sList, sTuple, sSum, sAll, sAny, sSorted, sRepr, sAddI, gVar, gVarT, gTupD, gsCons, gsNil, kdOf, itemsD, wipeE, fYes, List.map_cons, List.map_nil, List.cons_append, List.nil_append, List.replicate, List.length_cons, List.length_nil, List.set_cons_zero, List.set_cons_succ, List.getElem?_cons_zero, List.getElem?_cons_succ, eqv_int, true_and]
        refine hk3 _ ⟨m + 1, some (.int (0 + (m : Int))), hr4, by omega, ?_⟩
        rw [nums_set]
        rfl
      · rintro env ⟨m, a6, h1, h2, rfl⟩
        have hm := drop_range_nil h1
        have e : m = a + 2 := by omega
        subst e
        refine hk2 _ ⟨j + 1, _, _, _, addAt (irow a)[j] j (a + 2) late, hr3, by rw [addAt_len]; exact hl, h3, rfl⟩
    · rintro env ⟨j, a4, a5, a6, late, h1, hl, h3, rfl⟩
      have hj2 := drop_zip_nil h1
      rw [List.drop_of_length_le hj2] at h3
      have h4 : late = irow (a + 1) := h3
      subst h4
      simp only [gRet, gRetN, gIf, gSeq, gNil, gSet, gSetN, gSetT, gAug, gAugIx, gAppend, gExtend, gInsert, gSetIx, gPar, fpE, fpN, fpT, fpNil, gAsg, gExpr, fVar, fVarT, fC, fOp, fTest, fTAnd, fTOr, fTNot, fAnd, fOr, fNot, fIfE, fTup, fL, fLst, fANil, fACons, fAStar, fCB, fCN, fCall, fCallI, fIsN, fNotN, fNeg, fSl, fO0, fO1, fRevL, fRange1, fRange2, fSeq, fEnum, fZip, fLstRg, fR1, fR2, fIdx, fCnt, fCatN, fRepN, fFor, fComp, sAdd, sSub, sMul, sI2, sB2, sEq, sNe, sEqS, sNeS, sIn, sNotIn, sIx, sLt, sLe, sGt, sGe, sFdiv, sMod, sPow, sLen, sAbs, sInt, sMax2, sMin2, sList, sTuple, sSum, sAll, sAny, sSorted, sRepr, sAddI, gVar, gVarT, gTupD, gsCons, gsNil, kdOf, itemsD, wipeE, fYes, List.map_cons, List.map_nil, List.cons_append, List.nil_append, List.replicate, List.length_cons, List.length_nil, List.set_cons_zero, List.set_cons_succ, List.getElem?_cons_zero, List.getElem?_cons_succ, eqv_int, true_and]
      exact hk _ ⟨a + 1, _, _, _, _, _, hr2, by omega, rfl⟩
  · rintro env ⟨j, a2, b4, a4, a5, a6, h1, h2, rfl⟩
    have hj := drop_range_nil h1
    have e : j = n - 1 := by omega
    subst e
    simp only [gRet, gRetN, gIf, gSeq, gNil, gSet, gSetN, gSetT, gAug, gAugIx, gAppend, gExtend, gInsert, gSetIx, gPar, fpE, fpN, fpT, fpNil, gAsg, gExpr, fVar, fVarT, fC, fOp, fTest, fTAnd, fTOr, fTNot, fAnd, fOr, fNot, fIfE, fTup, fL, fLst, fANil, fACons, fAStar, fCB, fCN, fCall, fCallI, fIsN, fNotN, fNeg, fSl, fO0, fO1, fRevL, fRange1, fRange2, fSeq, fEnum, fZip, fLstRg, fR1, fR2, fIdx, fCnt, fCatN, fRepN, fFor, fComp, sAdd, sSub, sMul, sI2, sB2, sEq, sNe, sEqS, sNeS, sIn, sNotIn, sIx, sLt, sLe, sGt, sGe, sFdiv, sMod, sPow, sLen, sAbs, sInt, sMax2, sMin2, sList, sTuple, sSum, sAll, sAny, sSorted, sRepr, sAddI, gVar, gVarT, gTupD, gsCons, gsNil, kdOf, itemsD, wipeE, fYes, List.map_cons, List.map_nil, List.cons_append, List.nil_append, List.replicate, List.length_cons, List.length_nil, List.set_cons_zero, List.set_cons_succ, List.getElem?_cons_zero, List.getElem?_cons_succ, eqv_int, true_and]
    exact q

theorem ok_index_row {P : Program} {w : World} {K : PySem.W.Frag} {mg : Str → Option Value} {base : Heap} {x : Sx} (M : Mgs K mg)  : Cal P w K mg base 1 "index_row" (spF K x sp_index_row) :=
  calF M.d_index_row scp_index_row (by decide) (by decide) len_index_row (d_index_row M ) h_index_row
/-! ### _law_rows -/
def n__law_rows : List Str := ["n", "found", "lap", "late", "row", "k"]
theorem scp__law_rows : FnScope n__law_rows ["n"] (defScope st__law_rows) := ⟨rfl, rfl, rfl, by decide +kernel, rfl, by decide +kernel, by decide +kernel⟩
def o__law_rows : Nat → Bool := fun _ => false
def stepRows (n : Nat) (row : List Int) : List (List Int) := ((List.range n).filter fun (k : Nat) => !decide ((k : Int) ∈ row)).map fun (k : Nat) => row ++ [(k : Int)]
def lrows (n : Nat) : Nat → List (List Int)
  | 0 => [[]]
  | m + 1 => (lrows n m).flatMap (stepRows n)
def rowsD (rs : List (List Int)) : List PyData := rs.map fun r => .tuple (nums r)
def sp__law_rows : S1_ := fun ds P => ∃ n : Nat, ds = [.int (n : Int)] ∧ n ≤ 6 ∧ P (.list (rowsD (lrows n n)))
theorem stepRows_len (n : Nat) (row : List Int) : (stepRows n row).length ≤ n := by
  unfold stepRows
  rw [List.length_map]
  have := List.length_filter_le (fun k : Nat => !decide ((k : Int) ∈ row)) (List.range n)
  rw [List.length_range] at this
  exact this
theorem flat_len {α β : Type} (f : α → List β) (m : Nat) (h : ∀ a, (f a).length ≤ m) : ∀ l : List α, (l.flatMap f).length ≤ l.length * m
  | [] => by simp
  | a :: r => by
    rw [List.flatMap_cons, List.length_append, List.length_cons, Nat.add_mul, Nat.one_mul]
    have := h a
    have := flat_len f m h r
    omega
theorem lrows_len (n : Nat) : ∀ m, (lrows n m).length ≤ n ^ m
  | 0 => by simp [lrows]
  | m + 1 => by
    have h1 := flat_len (stepRows n) n (stepRows_len n) (lrows n m)
    have h2 := Nat.mul_le_mul_right n (lrows_len n m)
    rw [Nat.pow_succ]
    exact Nat.le_trans h1 h2
theorem lrows_row (n : Nat) : ∀ m, ∀ r ∈ lrows n m, r.length = m
  | 0, r, h => by
    have : r = [] := by simpa [lrows] using h
    rw [this]; rfl
  | m + 1, r, h => by
    obtain ⟨row, h1, h2⟩ := List.mem_flatMap.mp h
    unfold stepRows at h2
    obtain ⟨k, _, rfl⟩ := List.mem_map.mp h2
    rw [List.length_append, lrows_row n m row h1]; rfl

def g__law_rows : FS_ := gSeq (gSet 1 (fL (fLst (fACons (fTup fANil) fANil)))) (gSeq (fFor (fRange1 (fACons (fVar 0) fANil)) (gVar 2) (gSeq (gSet 3 (fL (fLst fANil))) (gSeq (fFor (fSeq (fVar 1)) (gVar 4) (gSet 3 (fL (fCatN (fVar 3) (fL (fComp [5] (fRange1 (fACons (fVar 0) fANil)) (gVar 5) (fTest (fOp sNotIn (fVar 5) (fVar 4))) (fOp sAdd (fVar 4) (fTup (fACons (fVar 5) fANil))))))))) (gSet 1 (fL (fCN sList (fACons (fVar 3) fANil))))))) (gRet (fVar 1)))
section
variable {P : Program} {w : World} {K : PySem.W.Frag} {mg : Str → Option Value} {base : Heap} {x : Sx}
theorem d__law_rows (M : Mgs K mg)  (f : Addr) (cdv : Value) (A : Around) (outer : List Env) (s0 : Shared) (H : Hp) (E : XK) (hgd : A.guards = some []) (hr : Room 0 (A.deeper (envOfC "_law_rows" (defScope st__law_rows) s0.heap.objs.size f cdv))) :
    FSs x o__law_rows (cxF P w K mg base n__law_rows "_law_rows" st__law_rows f cdv A outer s0 H E) (defBody st__law_rows) g__law_rows := by
  have S := scp__law_rows
  exact (fss_cons (fs_set (i := 1) S.nd (fe_new (fn_lst (fa_cons (fe_tup fa_nil) fa_nil))))
    (fss_cons (fs_for PassesOwn.never rfl (fi_range1 (by rfl) M.z_range (fab_cons (fb_of (fe_var 0)) fab_nil)) (gw_name S.nd) (fss_cons (fs_set (i := 3) S.nd (fe_new (fn_lst fa_nil)))
    (fss_cons (fs_for PassesOwn.never rfl (fi_seq (fe_var 1)) (gw_name S.nd) (fss_one (fs_set (i := 3) S.nd (fe_new (fn_cat (fb_of (fe_var 3)) (fb_of (fe_new (fn_comp (own := [("k", 5)]) rfl S.nd (fi_range1 (by rfl) M.z_range (fab_cons (fb_of (fe_var 0)) fab_nil)) (fun _ h => h) (blkOk_by rfl) (fun _ _ _ _ _ => (gw_name S.nd)) (fun _ _ _ _ _ => (fts_one (ft_cmp (op_notInX (hq65 hr)) s_notIn (by rfl) (fb_of (fe_var 5)) (fb_of (fe_var 4))))) (fun _ _ _ _ _ => (fe_op op_addAll s_add (fb_of (fe_var 4)) (fb_of (fe_tup (fa_cons (fe_var 5) fa_nil)))))))))))))
    (fss_one (fs_set (i := 1) S.nd (fe_new (fn_callT call_list_of s_list (by rfl) M.z_list bt_list (fab_cons (fb_of (fe_var 3)) fab_nil))))))))
    (fss_one (fs_ret (fe_var 1)))))
end
theorem len__law_rows (ds : List PyData) (Q : PyData → Prop) (h : sp__law_rows ds Q) : ds.length = 1 := by
  obtain ⟨ns, e, _⟩ := h
  rw [e]; rfl
theorem h__law_rows (ds : List PyData) (Q : PyData → Prop) (h : sp__law_rows ds Q) : g__law_rows { nx := fun _ => Q .none, rt := Q } (ds.map some ++ List.replicate (n__law_rows.length - ds.length) none) := by
  obtain ⟨n, rfl, hn, q⟩ := h
  have big : ∀ m, m ≤ n → (lrows n m).length ≤ 46656 := fun m hm => by
    have h1 := lrows_len n m
    have h2 : n ^ m ≤ 6 ^ 6 := by
      have a : n ^ m ≤ 6 ^ m := Nat.pow_le_pow_left hn m
      have b : 6 ^ m ≤ 6 ^ 6 := Nat.pow_le_pow_right (by decide) (by omega)
      exact Nat.le_trans a b
    have : (6 : Nat) ^ 6 = 46656 := by decide
    omega
  unfold g__law_rows
  simp only [gRet, gRetN, gIf, gSeq, gNil, gSet, gSetN, gSetT, gAug, gAugIx, gAppend, gExtend, gInsert, gSetIx, gPar, fpE, fpN, fpT, fpNil, gAsg, gExpr, fVar, fVarT, fC, fOp, fTest, fTAnd, fTOr, fTNot, fAnd, fOr, fNot, fIfE, fTup, fL, fLst, fANil, fACons, fAStar, fCB, fCN, fCall, fCallI, fIsN, fNotN, fNeg, fSl, fO0, fO1, fRevL, fRange1, fRange2, fSeq, fEnum, fZip, fLstRg, fR1, fR2, fIdx, fCnt, fCatN, fRepN, fFor, fComp, sAdd, sSub, sMul, sI2, sB2, sEq, sNe, sEqS, sNeS, sIn, sNotIn, sIx, sLt, sLe, sGt, sGe, sFdiv, sMod, sPow, sLen, sAbs, sInt, sMax2, sMin2, sList, sTuple, sSum, sAll, sAny, sSorted, sRepr, sAddI, gVar, gVarT, gTupD, gsCons, gsNil, kdOf, itemsD, wipeE, fYes, List.map_cons, List.map_nil, List.cons_append, List.nil_append, List.replicate, List.length_cons, List.length_nil, List.set_cons_zero, List.set_cons_succ, List.getElem?_cons_zero, List.getElem?_cons_succ, eqv_int, true_and, n__law_rows]
  refine ⟨by decide, by decide, ⟨by omega, by omega⟩, ?_⟩
  rw [Int.toNat_natCast, range_enc]
  refine loop_go _ (fun rest env => ∃ j a2 a3 a4 a5, (List.range n).drop j = rest ∧ j ≤ n ∧ env = [some (.int (n : Int)), some (.list (rowsD (lrows n j))), a2, a3, a4, a5]) ?_ ?_ _ _ ⟨0, none, none, none, none, rfl, Nat.zero_le _, rfl⟩
  · rintro a r env ⟨j, a2, a3, a4, a5, h1, h2, rfl⟩ k' hk
    obtain ⟨rfl, hj, hr2⟩ := drop_range h1
    have bg := big a (by omega)
    simp only [gRet, gRetN, gIf, gSeq, gNil, gSet, gSetN, gSetT, gAug, gAugIx, gAppend, gExtend, gInsert, gSetIx, gPar, fpE, fpN, fpT, fpNil, gAsg, gExpr, fVar, fVarT, fC, fOp, fTest, fTAnd, fTOr, fTNot, fAnd, fOr, fNot, fIfE, fTup, fL, fLst, fANil, fACons, fAStar, fCB, fCN, fCall, fCallI, fIsN, fNotN, fNeg, fSl, fO0, fO1, fRevL, fRange1, fRange2, fSeq, fEnum, fZip, fLstRg, fR1, fR2, fIdx, fCnt, fCatN, fRepN, fFor, fComp, sAdd, sSub, sMul, sI2, sB2, sEq, sNe, sEqS, sNeS, sIn, sNotIn, sIx, sLt, sLe, sGt, sGe, sFdiv, sMod, sPow, sLen, sAbs, sInt, sMax2, sMin2, sList, sTuple, sSum, sAll, sAny, sSorted, sRepr, sAddI, gVar, gVarT, gTupD, gsCons, gsNil, kdOf, itemsD, wipeE, fYes, List.map_cons, List.map_nil, List.cons_append, List.nil_append, List.replicate, List.length_cons, List.length_nil, List.set_cons_zero, List.set_cons_succ, List.getElem?_cons_zero, List.getElem?_cons_succ, eqv_int, true_and]
    refine ⟨by decide, ?_⟩
    unfold rowsD
    refine loop_go _ (fun rest env => ∃ don a2 a4 a5, don ++ rest = lrows n a ∧ env = [some (.int (n : Int)), some (.list (rowsD (lrows n a))), a2, some (.list (rowsD (don.flatMap (stepRows n)))), a4, a5]) ?_ ?_ _ _ ⟨[], _, _, _, rfl, rfl⟩
    · rintro row rest env ⟨don, a2, a4, a5, h1, rfl⟩ k2 hk2
      simp only [gRet, gRetN, gIf, gSeq, gNil, gSet, gSetN, gSetT, gAug, gAugIx, gAppend, gExtend, gInsert, gSetIx, gPar, fpE, fpN, fpT, fpNil, gAsg, gExpr, fVar, fVarT, fC, fOp, fTest, fTAnd, fTOr, fTNot, fAnd, fOr, fNot, fIfE, fTup, fL, fLst, fANil, fACons, fAStar, fCB, fCN, fCall, fCallI, fIsN, fNotN, fNeg, fSl, fO0, fO1, fRevL, fRange1, fRange2, fSeq, fEnum, fZip, fLstRg, fR1, fR2, fIdx, fCnt, fCatN, fRepN, fFor, fComp, sAdd, sSub, sMul, sI2, sB2, sEq, sNe, sEqS, sNeS, sIn, sNotIn, sIx, sLt, sLe, sGt, sGe, sFdiv, sMod, sPow, sLen, sAbs, sInt, sMax2, sMin2, sList, sTuple, sSum, sAll, sAny, sSorted, sRepr, sAddI, gVar, gVarT, gTupD, gsCons, gsNil, kdOf, itemsD, wipeE, fYes, List.map_cons, List.map_nil, List.cons_append, List.nil_append, List.replicate, List.length_cons, List.length_nil, List.set_cons_zero, List.set_cons_succ, List.getElem?_cons_zero, List.getElem?_cons_succ, eqv_int, true_and]
      refine ⟨⟨by omega, by omega⟩, ?_⟩
      rw [Int.toNat_natCast, range_enc]
      refine ⟨by rw [List.length_map, List.length_range]; omega, ?_⟩
      refine compL_go _ (fun (k : Nat) => !decide ((k : Int) ∈ row)) (fun (k : Nat) => .tuple (nums (row ++ [(k : Int)]))) _ _ (fun k hk A B g1 g2 => ?_) ?_
      · have lr : row.length = a := lrows_row n a row (by rw [← h1]; exact List.mem_append_right _ List.mem_cons_self)
        simp only [gRet, gRetN, gIf, gSeq, gNil, gSet, gSetN, gSetT, gAug, gAugIx, gAppend, gExtend, gInsert, gSetIx, gPar, fpE, fpN, fpT, fpNil, gAsg, gExpr, fVar, fVarT, fC, fOp, fTest, fTAnd, fTOr, fTNot, fAnd, fOr, fNot, fIfE, fTup, fL, fLst, fANil, fACons, fAStar, fCB, fCN, fCall, fCallI, fIsN, fNotN, fNeg, fSl, fO0, fO1, fRevL, fRange1, fRange2, fSeq, fEnum, fZip, fLstRg, fR1, fR2, fIdx, fCnt, fCatN, fRepN, fFor, fComp, sAdd, sSub, sMul, sI2, sB2, sEq, sNe, sEqS, sNeS, sIn, sNotIn, sIx, sLt, sLe, sGt, sGe, sFdiv, sMod, sPow, sLen, sAbs, sInt, sMax2, sMin2, sList, sTuple, sSum, sAll, sAny, sSorted, sRepr, sAddI, gVar, gVarT, gTupD, gsCons, gsNil, kdOf, itemsD, wipeE, fYes, List.map_cons, List.map_nil, List.cons_append, List.nil_append, List.replicate, List.length_cons, List.length_nil, List.set_cons_zero, List.set_cons_succ, List.getElem?_cons_zero, List.getElem?_cons_succ, eqv_int, true_and]
        refine ⟨fit_int _, (fit_nums _).1, ?_⟩
        rw [any_nums, show (0 + (k : Int)) = k by omega]
        cases hd : decide ((k : Int) ∈ row)
        · refine ⟨by decide, by rw [nums_len]; omega, ?_⟩
          have e : nums row ++ [PyData.int (k : Int)] = nums (row ++ [(k : Int)]) := by unfold nums; rw [List.map_append]; rfl
          rw [e]
          exact g1 (by rw [hd]; rfl)
        · exact g2 (by rw [hd]; rfl)
      · have l1 : (don.flatMap (stepRows n)).length ≤ don.length * n := flat_len _ _ (stepRows_len n) don
        have l2 : don.length ≤ 46656 := by
          have := congrArg List.length h1
          rw [List.length_append] at this
          omega
        have l3 : don.length * n ≤ 46656 * 6 := Nat.mul_le_mul l2 hn
        have l4 := stepRows_len n row
        have e : ((List.range n).filter fun (k : Nat) => !decide ((k : Int) ∈ row)).map (fun (k : Nat) => PyData.tuple (nums (row ++ [(k : Int)]))) = rowsD (stepRows n row) := by
          unfold rowsD stepRows
          rw [List.map_map]; rfl
        rw [e]
        have l5 : (rowsD (don.flatMap (stepRows n))).length = (don.flatMap (stepRows n)).length := List.length_map ..
        have l6 : (rowsD (stepRows n row)).length = (stepRows n row).length := List.length_map ..
        refine ⟨by rw [l5, l6]; omega, ?_⟩
        refine hk2 _ ⟨don ++ [row], a2, some (.tuple (nums row)), a5, by rw [List.append_assoc]; exact h1, ?_⟩
        rw [List.flatMap_append, List.flatMap_singleton]
        unfold rowsD
        rw [List.map_append]
    · rintro env ⟨don, a2, a4, a5, h1, rfl⟩
      rw [List.append_nil] at h1
      subst h1
      simp only [gRet, gRetN, gIf, gSeq, gNil, gSet, gSetN, gSetT, gAug, gAugIx, gAppend, gExtend, gInsert, gSetIx, gPar, fpE, fpN, fpT, fpNil, gAsg, gExpr, fVar, fVarT, fC, fOp, fTest, fTAnd, fTOr, fTNot, fAnd, fOr, fNot, fIfE, fTup, fL, fLst, fANil, fACons, fAStar, fCB, fCN, fCall, fCallI, fIsN, fNotN, fNeg, fSl, fO0, fO1, fRevL, fRange1, fRange2, fSeq, fEnum, fZip, fLstRg, fR1, fR2, fIdx, fCnt, fCatN, fRepN, fFor, fComp, sAdd, sSub, sMul, sI2, sB2, sEq, sNe, sEqS, sNeS, sIn, sNotIn, sIx, sLt, sLe, sGt, sGe, sFdiv, sMod, sPow, sLen, sAbs, sInt, sMax2, sMin2, sList, sTuple, sSum, sAll, sAny, sSorted, sRepr, sAddI, gVar, gVarT, gTupD, gsCons, gsNil, kdOf, itemsD, wipeE, fYes, List.map_cons, List.map_nil, List.cons_append, List.nil_append, List.replicate, List.length_cons, List.length_nil, List.set_cons_zero, List.set_cons_succ, List.getElem?_cons_zero, List.getElem?_cons_succ, eqv_int, true_and]
      exact hk _ ⟨a + 1, _, _, _, _, hr2, by omega, rfl⟩
  · rintro env ⟨j, a2, a3, a4, a5, h1, h2, rfl⟩
    have hj := drop_range_nil h1
    have e : j = n := by omega
    subst e
    simp only [gRet, gRetN, gIf, gSeq, gNil, gSet, gSetN, gSetT, gAug, gAugIx, gAppend, gExtend, gInsert, gSetIx, gPar, fpE, fpN, fpT, fpNil, gAsg, gExpr, fVar, fVarT, fC, fOp, fTest, fTAnd, fTOr, fTNot, fAnd, fOr, fNot, fIfE, fTup, fL, fLst, fANil, fACons, fAStar, fCB, fCN, fCall, fCallI, fIsN, fNotN, fNeg, fSl, fO0, fO1, fRevL, fRange1, fRange2, fSeq, fEnum, fZip, fLstRg, fR1, fR2, fIdx, fCnt, fCatN, fRepN, fFor, fComp, sAdd, sSub, sMul, sI2, sB2, sEq, sNe, sEqS, sNeS, sIn, sNotIn, sIx, sLt, sLe, sGt, sGe, sFdiv, sMod, sPow, sLen, sAbs, sInt, sMax2, sMin2, sList, sTuple, sSum, sAll, sAny, sSorted, sRepr, sAddI, gVar, gVarT, gTupD, gsCons, gsNil, kdOf, itemsD, wipeE, fYes, List.map_cons, List.map_nil, List.cons_append, List.nil_append, List.replicate, List.length_cons, List.length_nil, List.set_cons_zero, List.set_cons_succ, List.getElem?_cons_zero, List.getElem?_cons_succ, eqv_int, true_and]
    exact q

theorem ok__law_rows {P : Program} {w : World} {K : PySem.W.Frag} {mg : Str → Option Value} {base : Heap} {x : Sx} (M : Mgs K mg)  : Cal P w K mg base 1 "_law_rows" (spF K x sp__law_rows) :=
  calF M.d__law_rows scp__law_rows (by decide) (by decide) len__law_rows (d__law_rows M ) h__law_rows
/-! ### _law_falls -/
def n__law_falls : List Str := ["row", "i"]
theorem scp__law_falls : FnScope n__law_falls ["row"] (defScope st__law_falls) := ⟨rfl, rfl, rfl, by decide +kernel, rfl, by decide +kernel, by decide +kernel⟩
def o__law_falls : Nat → Bool := fun _ => false
def sp__law_falls : S1_ := fun ds P => ∃ ns d, ds = [d] ∧ sqI ns d ∧ ns.length ≤ 1000 ∧ P (.list (nums (falls ns)))

def g__law_falls : FS_ := gRet (fL (fComp [1] (fRange2 (fACons (fC (.int 1)) (fACons (fCB sLen (fACons (fVar 0) fANil)) fANil))) (gVar 1) (fTest (fOp sGt (fOp sIx (fVar 0) (fOp sSub (fVar 1) (fC (.int 1)))) (fOp sIx (fVar 0) (fVar 1)))) (fVar 1)))
section
variable {P : Program} {w : World} {K : PySem.W.Frag} {mg : Str → Option Value} {base : Heap} {x : Sx}
theorem d__law_falls (M : Mgs K mg)  (f : Addr) (cdv : Value) (A : Around) (outer : List Env) (s0 : Shared) (H : Hp) (E : XK) (hgd : A.guards = some []) (hr : Room 0 (A.deeper (envOfC "_law_falls" (defScope st__law_falls) s0.heap.objs.size f cdv))) :
    FSs x o__law_falls (cxF P w K mg base n__law_falls "_law_falls" st__law_falls f cdv A outer s0 H E) (defBody st__law_falls) g__law_falls := by
  have S := scp__law_falls
  exact (fss_one (fs_ret (fe_new (fn_comp (own := [("i", 1)]) rfl S.nd (fi_range2 (by rfl) M.z_range (fab_cons (fb_of fe_int) (fab_cons (fb_of (fe_callB call_len_seq s_len (by rfl) M.z_len bt_len (fab_cons (fb_of (fe_var 0)) fab_nil))) fab_nil))) (fun _ h => h) (blkOk_by rfl) (fun _ _ _ _ _ => (gw_name S.nd)) (fun _ _ _ _ _ => (fts_one (ft_cmp op_gt s_cmp (nomark _) (fb_of (fe_ix (fb_of (fe_var 0)) (fb_of (fe_op op_sub s_sub (fb_of (fe_var 1)) (fb_of fe_int))))) (fb_of (fe_ix (fb_of (fe_var 0)) (fb_of (fe_var 1))))))) (fun _ _ _ _ _ => (fe_var 1))))))
end
theorem len__law_falls (ds : List PyData) (Q : PyData → Prop) (h : sp__law_falls ds Q) : ds.length = 1 := by
  obtain ⟨ns, d, e, _⟩ := h
  rw [e]; rfl
theorem h__law_falls (ds : List PyData) (Q : PyData → Prop) (h : sp__law_falls ds Q) : g__law_falls { nx := fun _ => Q .none, rt := Q } (ds.map some ++ List.replicate (n__law_falls.length - ds.length) none) := by
  obtain ⟨ns, d, rfl, hd, hl, q⟩ := h
  have key := falls_comp (env := [some d, none]) (r := 0) (s := 1) hd (fun _ => rfl) (show 1 < 2 by decide)
  have el : (((nums ns).length : Int) - 1).toNat = ns.length - 1 := by rw [nums_len]; omega
  have hb : (-(2 ^ 62) ≤ (1 : Int) ∧ (1 : Int) < 2 ^ 62) ∧ -(2 ^ 62) ≤ ((nums ns).length : Int) ∧ ((nums ns).length : Int) < 2 ^ 62 := by rw [nums_len]; omega
  have lr : (rangeD 1 (ns.length - 1)).length ≤ 16777216 := by rw [range_enc, List.length_map, List.length_range]; omega
  unfold g__law_falls
  rcases hd with rfl | rfl
  all_goals
    simp only [gRet, gRetN, gIf, gSeq, gNil, gSet, gSetN, gSetT, gAug, gAugIx, gAppend, gExtend, gInsert, gSetIx, gPar, fpE, fpN, fpT, fpNil, gAsg, gExpr, fVar, fVarT, fC, fOp, fTest, fTAnd, fTOr, fTNot, fAnd, fOr, fNot, fIfE, fTup, fL, fLst, fANil, fACons, fAStar, fCB, fCN, fCall, fCallI, fIsN, fNotN, fNeg, fSl, fO0, fO1, fRevL, fRange1, fRange2, fSeq, fEnum, fZip, fLstRg, fR1, fR2, fIdx, fCnt, fCatN, fRepN, fFor, fComp, sAdd, sSub, sMul, sI2, sB2, sEq, sNe, sEqS, sNeS, sIn, sNotIn, sIx, sLt, sLe, sGt, sGe, sFdiv, sMod, sPow, sLen, sAbs, sInt, sMax2, sMin2, sList, sTuple, sSum, sAll, sAny, sSorted, sRepr, sAddI, gVar, gVarT, gTupD, gsCons, gsNil, kdOf, itemsD, wipeE, fYes, List.map_cons, List.map_nil, List.cons_append, List.nil_append, List.replicate, List.length_cons, List.length_nil, List.set_cons_zero, List.set_cons_succ, List.getElem?_cons_zero, List.getElem?_cons_succ, eqv_int, true_and, n__law_falls]
    refine ⟨hb, ?_⟩
    rw [el]
    exact ⟨lr, key _ q⟩

theorem ok__law_falls {P : Program} {w : World} {K : PySem.W.Frag} {mg : Str → Option Value} {base : Heap} {x : Sx} (M : Mgs K mg)  : Cal P w K mg base 1 "_law_falls" (spF K x sp__law_falls) :=
  calF M.d__law_falls scp__law_falls (by decide) (by decide) len__law_falls (d__law_falls M ) h__law_falls
/-! ### _law_inversions -/
def n__law_inversions : List Str := ["row", "i", "one", "late"]
theorem scp__law_inversions : FnScope n__law_inversions ["row"] (defScope st__law_inversions) := ⟨rfl, rfl, rfl, by decide +kernel, rfl, by decide +kernel, by decide +kernel⟩
def o__law_inversions : Nat → Bool := fun _ => false
def sp__law_inversions : S1_ := fun ds P => ∃ ns d, ds = [d] ∧ sqI ns d ∧ ns.length ≤ 1000 ∧ P (.int (inv ns))
theorem zipIdx_map {α : Type} (f : α → Nat → Int) (l : List α) (dflt : α) : l.zipIdx.map (fun p => f p.1 p.2) = (List.range l.length).map fun i => f (l.getD i dflt) i := by
  apply List.ext_getElem (by simp)
  intro i h1 h2
  have hi : i < l.length := by simpa using h1
  simp [List.getD, List.getElem?_eq_getElem hi]

def g__law_inversions : FS_ := gRet (fCB sSum (fACons (fL (fComp [1, 2] (fEnum (fACons (fVar 0) fANil)) (gTupD 2 (gsCons (gVar 1) (gsCons (gVar 2) gsNil))) (fYes) (fCB sLen (fACons (fL (fComp [3] (fSeq (fSl (fVar 0) (fO1 (fOp sAdd (fVar 1) (fC (.int 1)))) (fO0))) (gVar 3) (fTest (fOp sLt (fVar 3) (fVar 2))) (fVar 3))) fANil)))) fANil))
section
variable {P : Program} {w : World} {K : PySem.W.Frag} {mg : Str → Option Value} {base : Heap} {x : Sx}
theorem d__law_inversions (M : Mgs K mg)  (f : Addr) (cdv : Value) (A : Around) (outer : List Env) (s0 : Shared) (H : Hp) (E : XK) (hgd : A.guards = some []) (hr : Room 0 (A.deeper (envOfC "_law_inversions" (defScope st__law_inversions) s0.heap.objs.size f cdv))) :
    FSs x o__law_inversions (cxF P w K mg base n__law_inversions "_law_inversions" st__law_inversions f cdv A outer s0 H E) (defBody st__law_inversions) g__law_inversions := by
  have S := scp__law_inversions
  exact (fss_one (fs_ret (fe_callB (cr_sumF rfl) s_sum (by rfl) M.z_sum bt_sum (fab_cons (fb_of (fe_new (fn_comp (own := [("i", 1), ("one", 2)]) rfl S.nd (fi_enumB (by rfl) M.z_enumerate (fab_cons (fb_of (fe_var 0)) fab_nil)) (fun _ h => h) (blkOk_by rfl) (fun _ _ _ _ _ => (gw_tup rfl (gs_cons (gw_name S.nd) (gs_cons (gw_name S.nd) gs_nil)))) (fun _ _ _ _ _ => fts_nil) (fun _ _ _ _ _ => (fe_callB call_len_seq s_len (by rfl) M.z_len bt_len (fab_cons (fb_of (fe_new (fn_comp (own := [("late", 3)]) rfl S.nd (fi_seqB (fb_of (fe_slice (fb_of (fe_var 0)) (fo_some (fb_of (fe_op op_addAll s_add (fb_of (fe_var 1)) (fb_of fe_int)))) fo_none))) (fun _ h => h) (blkOk_by rfl) (fun _ _ _ _ _ => (gw_name S.nd)) (fun _ _ _ _ _ => (fts_one (ft_cmp op_lt s_cmp (nomark _) (fb_of (fe_var 3)) (fb_of (fe_var 2))))) (fun _ _ _ _ _ => (fe_var 3))))) fab_nil)))))) fab_nil))))
end
theorem len__law_inversions (ds : List PyData) (Q : PyData → Prop) (h : sp__law_inversions ds Q) : ds.length = 1 := by
  obtain ⟨ns, d, e, _⟩ := h
  rw [e]; rfl
theorem inv_comp {ns : List Int} {d : PyData} (hd : sqI ns d) (hl : ns.length ≤ 1000) (P : List PyData → Prop) (hP : P (nums ((List.range ns.length).map fun (i : Nat) => ((((ns.drop (i + 1)).filter fun y => decide (y < ns.getD i 0)).length : Nat) : Int)))) :
    fCompL (gTupD 2 (gsCons (gVar 1) (gsCons (gVar 2) gsNil))) fYes (fCB sLen (fACons (fL (fComp [3] (fSeq (fSl (fVar 0) (fO1 (fOp sAdd (fVar 1) (fC (.int 1)))) (fO0))) (gVar 3) (fTest (fOp sLt (fVar 3) (fVar 2))) (fVar 3))) fANil)) [some d, none, none, none] (enumD (nums ns)) P := by
  unfold nums
  rw [enum_enc]
  refine compL_map _ (fun (p : Int × Nat) => .int ((((ns.drop (p.2 + 1)).filter fun y => decide (y < p.1)).length : Nat) : Int)) _ _ (fun p hp A hA => ?_) ?_
  · have hp2 : p.2 < ns.length := by
      have := List.mem_zipIdx hp
      omega
    have go : ∀ Q : List PyData → Prop, Q (((ns.drop (p.2 + 1)).filter fun y => decide (y < p.1)).map PyData.int) → fCompL (gVar 3) (fTest (fOp sLt (fVar 3) (fVar 2))) (fVar 3) [some d, some (.int (p.2 : Nat)), some (.int p.1), none] (nums (ns.drop (p.2 + 1))) Q := fun Q hQ => by
      unfold nums
      refine compL_go _ (fun y => decide (y < p.1)) (fun y => .int y) _ _ (fun y hy A2 B2 h1 h2 => ?_) hQ
      simp only [gRet, gRetN, gIf, gSeq, gNil, gSet, gSetN, gSetT, gAug, gAugIx, gAppend, gExtend, gInsert, gSetIx, gPar, fpE, fpN, fpT, fpNil, gAsg, gExpr, fVar, fVarT, fC, fOp, fTest, fTAnd, fTOr, fTNot, fAnd, fOr, fNot, fIfE, fTup, fL, fLst, fANil, fACons, fAStar, fCB, fCN, fCall, fCallI, fIsN, fNotN, fNeg, fSl, fO0, fO1, fRevL, fRange1, fRange2, fSeq, fEnum, fZip, fLstRg, fR1, fR2, fIdx, fCnt, fCatN, fRepN, fFor, fComp, sAdd, sSub, sMul, sI2, sB2, sEq, sNe, sEqS, sNeS, sIn, sNotIn, sIx, sLt, sLe, sGt, sGe, sFdiv, sMod, sPow, sLen, sAbs, sInt, sMax2, sMin2, sList, sTuple, sSum, sAll, sAny, sSorted, sRepr, sAddI, gVar, gVarT, gTupD, gsCons, gsNil, kdOf, itemsD, wipeE, fYes, List.map_cons, List.map_nil, List.cons_append, List.nil_append, List.replicate, List.length_cons, List.length_nil, List.set_cons_zero, List.set_cons_succ, List.getElem?_cons_zero, List.getElem?_cons_succ, eqv_int, true_and]
      cases hd : decide (y < p.1)
      · exact h2 hd
      · exact h1 hd
    have e1 : ((p.2 : Nat) : Int) + 1 = ((p.2 + 1 : Nat) : Int) := by omega
    have cd := cut_drop ns (i := p.2 + 1) (by omega)
    rcases hd with rfl | rfl
    all_goals
      simp only [gRet, gRetN, gIf, gSeq, gNil, gSet, gSetN, gSetT, gAug, gAugIx, gAppend, gExtend, gInsert, gSetIx, gPar, fpE, fpN, fpT, fpNil, gAsg, gExpr, fVar, fVarT, fC, fOp, fTest, fTAnd, fTOr, fTNot, fAnd, fOr, fNot, fIfE, fTup, fL, fLst, fANil, fACons, fAStar, fCB, fCN, fCall, fCallI, fIsN, fNotN, fNeg, fSl, fO0, fO1, fRevL, fRange1, fRange2, fSeq, fEnum, fZip, fLstRg, fR1, fR2, fIdx, fCnt, fCatN, fRepN, fFor, fComp, sAdd, sSub, sMul, sI2, sB2, sEq, sNe, sEqS, sNeS, sIn, sNotIn, sIx, sLt, sLe, sGt, sGe, sFdiv, sMod, sPow, sLen, sAbs, sInt, sMax2, sMin2, sList, sTuple, sSum, sAll, sAny, sSorted, sRepr, sAddI, gVar, gVarT, gTupD, gsCons, gsNil, kdOf, itemsD, wipeE, fYes, List.map_cons, List.map_nil, List.cons_append, List.nil_append, List.replicate, List.length_cons, List.length_nil, List.set_cons_zero, List.set_cons_succ, List.getElem?_cons_zero, List.getElem?_cons_succ, eqv_int, true_and]
      rw [e1, cd]
      refine ⟨by rw [nums_len, List.length_drop]; omega, go _ ?_⟩
      rw [List.length_map]
      exact hA
  · have e := zipIdx_map (fun (x : Int) (i : Nat) => ((((ns.drop (i + 1)).filter fun y => decide (y < x)).length : Nat) : Int)) ns 0
    have e2 : ns.zipIdx.map (fun (p : Int × Nat) => PyData.int ((((ns.drop (p.2 + 1)).filter fun y => decide (y < p.1)).length : Nat) : Int)) = nums (ns.zipIdx.map fun p => ((((ns.drop (p.2 + 1)).filter fun y => decide (y < p.1)).length : Nat) : Int)) := by
      unfold nums
      rw [List.map_map]; rfl
    rw [e2, e]
    exact hP
theorem h__law_inversions (ds : List PyData) (Q : PyData → Prop) (h : sp__law_inversions ds Q) : g__law_inversions { nx := fun _ => Q .none, rt := Q } (ds.map some ++ List.replicate (n__law_inversions.length - ds.length) none) := by
  obtain ⟨ns, d, rfl, hd, hl, q⟩ := h
  have le : (enumD (nums ns)).length ≤ 16777216 := by rw [enumD_length, nums_len]; omega
  have key := inv_comp hd hl
  unfold g__law_inversions
  rcases hd with rfl | rfl
  all_goals
    simp only [gRet, gRetN, gIf, gSeq, gNil, gSet, gSetN, gSetT, gAug, gAugIx, gAppend, gExtend, gInsert, gSetIx, gPar, fpE, fpN, fpT, fpNil, gAsg, gExpr, fVar, fVarT, fC, fOp, fTest, fTAnd, fTOr, fTNot, fAnd, fOr, fNot, fIfE, fTup, fL, fLst, fANil, fACons, fAStar, fCB, fCN, fCall, fCallI, fIsN, fNotN, fNeg, fSl, fO0, fO1, fRevL, fRange1, fRange2, fSeq, fEnum, fZip, fLstRg, fR1, fR2, fIdx, fCnt, fCatN, fRepN, fFor, fComp, sAdd, sSub, sMul, sI2, sB2, sEq, sNe, sEqS, sNeS, sIn, sNotIn, sIx, sLt, sLe, sGt, sGe, sFdiv, sMod, sPow, sLen, sAbs, sInt, sMax2, sMin2, sList, sTuple, sSum, sAll, sAny, sSorted, sRepr, sAddI, gVar, gVarT, gTupD, gsCons, gsNil, kdOf, itemsD, wipeE, fYes, List.map_cons, List.map_nil, List.cons_append, List.nil_append, List.replicate, List.length_cons, List.length_nil, List.set_cons_zero, List.set_cons_succ, List.getElem?_cons_zero, List.getElem?_cons_succ, eqv_int, true_and, n__law_inversions]
    refine ⟨le, ?_⟩
    refine key _ ?_
    simp only [intsOf_nums, inv_sum]
    exact q

theorem ok__law_inversions {P : Program} {w : World} {K : PySem.W.Frag} {mg : Str → Option Value} {base : Heap} {x : Sx} (M : Mgs K mg)  : Cal P w K mg base 1 "_law_inversions" (spF K x sp__law_inversions) :=
  calF M.d__law_inversions scp__law_inversions (by decide) (by decide) len__law_inversions (d__law_inversions M ) h__law_inversions
/-! ### _law_product -/
def n__law_product : List Str := ["n", "found", "one"]
theorem scp__law_product : FnScope n__law_product ["n"] (defScope st__law_product) := ⟨rfl, rfl, rfl, by decide +kernel, rfl, by decide +kernel, by decide +kernel⟩
def o__law_product : Nat → Bool := fun _ => false
def prodTo : Nat → Int
  | 0 => 1
  | m + 1 => prodTo m * ((m : Int) + 2)
def sp__law_product : S1_ := fun ds P => ∃ n : Nat, ds = [.int (n : Int)] ∧ 1 ≤ n ∧ n ≤ 12 ∧ P (.int (prodTo (n - 1)))
theorem prod_small (m : Nat) (h : m ≤ 11) : 0 ≤ prodTo m ∧ prodTo m ≤ 479001600 := by
  have : m = 0 ∨ m = 1 ∨ m = 2 ∨ m = 3 ∨ m = 4 ∨ m = 5 ∨ m = 6 ∨ m = 7 ∨ m = 8 ∨ m = 9 ∨ m = 10 ∨ m = 11 := by omega
  rcases this with rfl | rfl | rfl | rfl | rfl | rfl | rfl | rfl | rfl | rfl | rfl | rfl <;> decide
theorem mulW_small {i j : Int} (hi : 0 ≤ i ∧ i < 1073741824) (hj : 0 ≤ j ∧ j < 1073741824) : CMulW i j := by
  have go : ∀ i : Int, 0 ≤ i ∧ i < 1073741824 → i.natAbs.log2 ≤ 30 := fun i h => by
    by_cases z : i.natAbs = 0
    · rw [z]; decide
    · have := (Nat.log2_lt z).mpr (show i.natAbs < 2 ^ 31 by omega)
      omega
  have := go i hi
  have := go j hj
  show i.natAbs.log2 + j.natAbs.log2 < 1000000
  omega

def g__law_product : FS_ := gSeq (gSet 1 (fC (.int 1))) (gSeq (fFor (fRange2 (fACons (fC (.int 2)) (fACons (fOp sAdd (fVar 0) (fC (.int 1))) fANil))) (gVar 2) (gSet 1 (fOp sMul (fVar 1) (fVar 2)))) (gRet (fVar 1)))
section
variable {P : Program} {w : World} {K : PySem.W.Frag} {mg : Str → Option Value} {base : Heap} {x : Sx}
theorem d__law_product (M : Mgs K mg)  (f : Addr) (cdv : Value) (A : Around) (outer : List Env) (s0 : Shared) (H : Hp) (E : XK) (hgd : A.guards = some []) (hr : Room 0 (A.deeper (envOfC "_law_product" (defScope st__law_product) s0.heap.objs.size f cdv))) :
    FSs x o__law_product (cxF P w K mg base n__law_product "_law_product" st__law_product f cdv A outer s0 H E) (defBody st__law_product) g__law_product := by
  have S := scp__law_product
  exact (fss_cons (fs_set (i := 1) S.nd fe_int)
    (fss_cons (fs_for PassesOwn.never rfl (fi_range2 (by rfl) M.z_range (fab_cons (fb_of fe_int) (fab_cons (fb_of (fe_op op_addAll s_add (fb_of (fe_var 0)) (fb_of fe_int))) fab_nil))) (gw_name S.nd) (fss_one (fs_set (i := 1) S.nd (fe_op op_mulAll s_mul (fb_of (fe_var 1)) (fb_of (fe_var 2))))))
    (fss_one (fs_ret (fe_var 1)))))
end
theorem len__law_product (ds : List PyData) (Q : PyData → Prop) (h : sp__law_product ds Q) : ds.length = 1 := by
  obtain ⟨n, e, _⟩ := h
  rw [e]; rfl
theorem h__law_product (ds : List PyData) (Q : PyData → Prop) (h : sp__law_product ds Q) : g__law_product { nx := fun _ => Q .none, rt := Q } (ds.map some ++ List.replicate (n__law_product.length - ds.length) none) := by
  obtain ⟨n, rfl, n1, n2, q⟩ := h
  unfold g__law_product
  simp only [gRet, gRetN, gIf, gSeq, gNil, gSet, gSetN, gSetT, gAug, gAugIx, gAppend, gExtend, gInsert, gSetIx, gPar, fpE, fpN, fpT, fpNil, gAsg, gExpr, fVar, fVarT, fC, fOp, fTest, fTAnd, fTOr, fTNot, fAnd, fOr, fNot, fIfE, fTup, fL, fLst, fANil, fACons, fAStar, fCB, fCN, fCall, fCallI, fIsN, fNotN, fNeg, fSl, fO0, fO1, fRevL, fRange1, fRange2, fSeq, fEnum, fZip, fLstRg, fR1, fR2, fIdx, fCnt, fCatN, fRepN, fFor, fComp, sAdd, sSub, sMul, sI2, sB2, sEq, sNe, sEqS, sNeS, sIn, sNotIn, sIx, sLt, sLe, sGt, sGe, sFdiv, sMod, sPow, sLen, sAbs, sInt, sMax2, sMin2, sList, sTuple, sSum, sAll, sAny, sSorted, sRepr, sAddI, gVar, gVarT, gTupD, gsCons, gsNil, kdOf, itemsD, wipeE, fYes, List.map_cons, List.map_nil, List.cons_append, List.nil_append, List.replicate, List.length_cons, List.length_nil, List.set_cons_zero, List.set_cons_succ, List.getElem?_cons_zero, List.getElem?_cons_succ, eqv_int, true_and, n__law_product]
  refine ⟨⟨⟨by decide, by decide⟩, by omega, by omega⟩, ?_⟩
  have e0 : ((n : Int) + 1 - 2).toNat = n - 1 := by omega
  rw [e0, range_enc]
  refine loop_go _ (fun rest env => ∃ j a2, (List.range (n - 1)).drop j = rest ∧ j ≤ n - 1 ∧ env = [some (.int (n : Int)), some (.int (prodTo j)), a2]) ?_ ?_ _ _ ⟨0, none, rfl, Nat.zero_le _, rfl⟩
  · rintro a r env ⟨j, a2, h1, h2, rfl⟩ k' hk
    obtain ⟨rfl, hj, hr2⟩ := drop_range h1
    have ps := prod_small a (by omega)
    simp only [gRet, gRetN, gIf, gSeq, gNil, gSet, gSetN, gSetT, gAug, gAugIx, gAppend, gExtend, gInsert, gSetIx, gPar, fpE, fpN, fpT, fpNil, gAsg, gExpr, fVar, fVarT, fC, fOp, fTest, fTAnd, fTOr, fTNot, fAnd, fOr, fNot, fIfE, fTup, fL, fLst, fANil, fACons, fAStar, fCB, fCN, fCall, fCallI, fIsN, fNotN, fNeg, fSl, fO0, fO1, fRevL, fRange1, fRange2, fSeq, fEnum, fZip, fLstRg, fR1, fR2, fIdx, fCnt, fCatN, fRepN, fFor, fComp, sAdd, sSub, sMul, sI2, sB2, sEq, sNe, sEqS, sNeS, sIn, sNotIn, sIx, sLt, sLe, sGt, sGe, sFdiv, sMod, sPow, sLen, sAbs, sInt, sMax2, sMin2, sList, sTuple, sSum, sAll, sAny, sSorted, sRepr, sAddI, gVar, gVarT, gTupD, gsCons, gsNil, kdOf, itemsD, wipeE, fYes, List.map_cons, List.map_nil, List.cons_append, List.nil_append, List.replicate, List.length_cons, List.length_nil, List.set_cons_zero, List.set_cons_succ, List.getElem?_cons_zero, List.getElem?_cons_succ, eqv_int, true_and]
    refine ⟨mulW_small (by omega) (by omega), ?_⟩
    refine hk _ ⟨a + 1, some (.int (2 + (a : Int))), hr2, by omega, ?_⟩
    rw [show (2 + (a : Int)) = (a : Int) + 2 by omega]
    rfl
  · rintro env ⟨j, a2, h1, h2, rfl⟩
    have hj := drop_range_nil h1
    have e : j = n - 1 := by omega
    subst e
    simp only [gRet, gRetN, gIf, gSeq, gNil, gSet, gSetN, gSetT, gAug, gAugIx, gAppend, gExtend, gInsert, gSetIx, gPar, fpE, fpN, fpT, fpNil, gAsg, gExpr, fVar, fVarT, fC, fOp, fTest, fTAnd, fTOr, fTNot, fAnd, fOr, fNot, fIfE, fTup, fL, fLst, fANil, fACons, fAStar, fCB, fCN, fCall, fCallI, fIsN, fNotN, fNeg, fSl, fO0, fO1, fRevL, fRange1, fRange2, fSeq, fEnum, fZip, fLstRg, fR1, fR2, fIdx, fCnt, fCatN, fRepN, fFor, fComp, sAdd, sSub, sMul, sI2, sB2, sEq, sNe, sEqS, sNeS, sIn, sNotIn, sIx, sLt, sLe, sGt, sGe, sFdiv, sMod, sPow, sLen, sAbs, sInt, sMax2, sMin2, sList, sTuple, sSum, sAll, sAny, sSorted, sRepr, sAddI, gVar, gVarT, gTupD, gsCons, gsNil, kdOf, itemsD, wipeE, fYes, List.map_cons, List.map_nil, List.cons_append, List.nil_append, List.replicate, List.length_cons, List.length_nil, List.set_cons_zero, List.set_cons_succ, List.getElem?_cons_zero, List.getElem?_cons_succ, eqv_int, true_and]
    exact q


theorem ok__law_product {P : Program} {w : World} {K : PySem.W.Frag} {mg : Str → Option Value} {base : Heap} {x : Sx} (M : Mgs K mg)  : Cal P w K mg base 1 "_law_product" (spF K x sp__law_product) :=
  calF M.d__law_product scp__law_product (by decide) (by decide) len__law_product (d__law_product M ) h__law_product
/-! ### index_of -/
def n_index_of : List Str := ["row"]
theorem scp_index_of : FnScope n_index_of ["row"] (defScope st_index_of) := ⟨rfl, rfl, rfl, by decide +kernel, rfl, by decide +kernel, by decide +kernel⟩
def o_index_of : Nat → Bool := fun _ => false
def sp_index_of : S1_ := fun ds P => ∃ ns d, ds = [d] ∧ sqI ns d ∧ ns.length ≤ 1000 ∧ P (.int (maj ns))

def g_index_of : FS_ := gRet (fCB sSum (fACons (fCall sp_falls_of (fACons (fVar 0) fANil)) fANil))
section
variable {P : Program} {w : World} {K : PySem.W.Frag} {mg : Str → Option Value} {base : Heap} {x : Sx}
theorem d_index_of (M : Mgs K mg) (c_falls_of : Cal P w K mg base 1 "falls_of" (spF K x sp_falls_of)) (f : Addr) (cdv : Value) (A : Around) (outer : List Env) (s0 : Shared) (H : Hp) (E : XK) (hgd : A.guards = some []) (hr : Room 1 (A.deeper (envOfC "index_of" (defScope st_index_of) s0.heap.objs.size f cdv))) :
    FSs x o_index_of (cxF P w K mg base n_index_of "index_of" st_index_of f cdv A outer s0 H E) (defBody st_index_of) g_index_of := by
  have S := scp_index_of
  exact (fss_one (fs_ret (fe_callB (cr_sumF rfl) s_sum (by rfl) M.z_sum bt_sum (fab_cons (fb_of (fe_call c_falls_of (guards_deeper hgd _) hr (by decide) (by rfl) (fa_cons (fe_var 0) fa_nil))) fab_nil))))
end
theorem len_index_of (ds : List PyData) (Q : PyData → Prop) (h : sp_index_of ds Q) : ds.length = 1 := by
  obtain ⟨ns, d, e, _⟩ := h
  rw [e]; rfl
theorem h_index_of (ds : List PyData) (Q : PyData → Prop) (h : sp_index_of ds Q) : g_index_of { nx := fun _ => Q .none, rt := Q } (ds.map some ++ List.replicate (n_index_of.length - ds.length) none) := by
  obtain ⟨ns, d, rfl, hd, hl, q⟩ := h
  unfold g_index_of
  simp only [gRet, gRetN, gIf, gSeq, gNil, gSet, gSetN, gSetT, gAug, gAugIx, gAppend, gExtend, gInsert, gSetIx, gPar, fpE, fpN, fpT, fpNil, gAsg, gExpr, fVar, fVarT, fC, fOp, fTest, fTAnd, fTOr, fTNot, fAnd, fOr, fNot, fIfE, fTup, fL, fLst, fANil, fACons, fAStar, fCB, fCN, fCall, fCallI, fIsN, fNotN, fNeg, fSl, fO0, fO1, fRevL, fRange1, fRange2, fSeq, fEnum, fZip, fLstRg, fR1, fR2, fIdx, fCnt, fCatN, fRepN, fFor, fComp, sAdd, sSub, sMul, sI2, sB2, sEq, sNe, sEqS, sNeS, sIn, sNotIn, sIx, sLt, sLe, sGt, sGe, sFdiv, sMod, sPow, sLen, sAbs, sInt, sMax2, sMin2, sList, sTuple, sSum, sAll, sAny, sSorted, sRepr, sAddI, gVar, gVarT, gTupD, gsCons, gsNil, kdOf, itemsD, wipeE, fYes, List.map_cons, List.map_nil, List.cons_append, List.nil_append, List.replicate, List.length_cons, List.length_nil, List.set_cons_zero, List.set_cons_succ, List.getElem?_cons_zero, List.getElem?_cons_succ, eqv_int, true_and, n_index_of]
  refine ⟨ns, d, rfl, hd, hl, ?_⟩
  simp only [intsOf_nums, maj_eq]
  exact q

theorem ok_index_of {P : Program} {w : World} {K : PySem.W.Frag} {mg : Str → Option Value} {base : Heap} {x : Sx} (M : Mgs K mg) (c_falls_of : Cal P w K mg base 1 "falls_of" (spF K x sp_falls_of)) : Cal P w K mg base 2 "index_of" (spF K x sp_index_of) :=
  calF M.d_index_of scp_index_of (by decide) (by decide) len_index_of (d_index_of M c_falls_of) h_index_of
/-! ### inversions_of -/
def n_inversions_of : List Str := ["row"]
theorem scp_inversions_of : FnScope n_inversions_of ["row"] (defScope st_inversions_of) := ⟨rfl, rfl, rfl, by decide +kernel, rfl, by decide +kernel, by decide +kernel⟩
def o_inversions_of : Nat → Bool := fun _ => false
def sp_inversions_of : S1_ := fun ds P => ∃ n ns, ds = [.tuple (nums ns)] ∧ Row n ns ∧ n ≤ 1000 ∧ P (.int (inv ns))

def g_inversions_of : FS_ := gRet (fCB sSum (fACons (fCall sp_inversion_code (fACons (fVar 0) fANil)) fANil))
section
variable {P : Program} {w : World} {K : PySem.W.Frag} {mg : Str → Option Value} {base : Heap} {x : Sx}
theorem d_inversions_of (M : Mgs K mg) (c_inversion_code : Cal P w K mg base 1 "inversion_code" (spF K x sp_inversion_code)) (f : Addr) (cdv : Value) (A : Around) (outer : List Env) (s0 : Shared) (H : Hp) (E : XK) (hgd : A.guards = some []) (hr : Room 1 (A.deeper (envOfC "inversions_of" (defScope st_inversions_of) s0.heap.objs.size f cdv))) :
    FSs x o_inversions_of (cxF P w K mg base n_inversions_of "inversions_of" st_inversions_of f cdv A outer s0 H E) (defBody st_inversions_of) g_inversions_of := by
  have S := scp_inversions_of
  exact (fss_one (fs_ret (fe_callB (cr_sumF rfl) s_sum (by rfl) M.z_sum bt_sum (fab_cons (fb_of (fe_call c_inversion_code (guards_deeper hgd _) hr (by decide) (by rfl) (fa_cons (fe_var 0) fa_nil))) fab_nil))))
end
theorem len_inversions_of (ds : List PyData) (Q : PyData → Prop) (h : sp_inversions_of ds Q) : ds.length = 1 := by
  obtain ⟨n, ns, e, _⟩ := h
  rw [e]; rfl
theorem h_inversions_of (ds : List PyData) (Q : PyData → Prop) (h : sp_inversions_of ds Q) : g_inversions_of { nx := fun _ => Q .none, rt := Q } (ds.map some ++ List.replicate (n_inversions_of.length - ds.length) none) := by
  obtain ⟨n, ns, rfl, hr, hl, q⟩ := h
  unfold g_inversions_of
  simp only [gRet, gRetN, gIf, gSeq, gNil, gSet, gSetN, gSetT, gAug, gAugIx, gAppend, gExtend, gInsert, gSetIx, gPar, fpE, fpN, fpT, fpNil, gAsg, gExpr, fVar, fVarT, fC, fOp, fTest, fTAnd, fTOr, fTNot, fAnd, fOr, fNot, fIfE, fTup, fL, fLst, fANil, fACons, fAStar, fCB, fCN, fCall, fCallI, fIsN, fNotN, fNeg, fSl, fO0, fO1, fRevL, fRange1, fRange2, fSeq, fEnum, fZip, fLstRg, fR1, fR2, fIdx, fCnt, fCatN, fRepN, fFor, fComp, sAdd, sSub, sMul, sI2, sB2, sEq, sNe, sEqS, sNeS, sIn, sNotIn, sIx, sLt, sLe, sGt, sGe, sFdiv, sMod, sPow, sLen, sAbs, sInt, sMax2, sMin2, sList, sTuple, sSum, sAll, sAny, sSorted, sRepr, sAddI, gVar, gVarT, gTupD, gsCons, gsNil, kdOf, itemsD, wipeE, fYes, List.map_cons, List.map_nil, List.cons_append, List.nil_append, List.replicate, List.length_cons, List.length_nil, List.set_cons_zero, List.set_cons_succ, List.getElem?_cons_zero, List.getElem?_cons_succ, eqv_int, true_and, n_inversions_of]
  refine ⟨n, ns, rfl, hr, hl, ?_⟩
  simp only [intsOf_nums, hr.icode_sum]
  exact q

theorem ok_inversions_of {P : Program} {w : World} {K : PySem.W.Frag} {mg : Str → Option Value} {base : Heap} {x : Sx} (M : Mgs K mg) (c_inversion_code : Cal P w K mg base 1 "inversion_code" (spF K x sp_inversion_code)) : Cal P w K mg base 2 "inversions_of" (spF K x sp_inversions_of) :=
  calF M.d_inversions_of scp_inversions_of (by decide) (by decide) len_inversions_of (d_inversions_of M c_inversion_code) h_inversions_of
/-! ### index_code -/
def n_index_code : List Str := ["row", "found", "ahead", "k", "late", "one"]
theorem scp_index_code : FnScope n_index_code ["row"] (defScope st_index_code) := ⟨rfl, rfl, rfl, by decide +kernel, rfl, by decide +kernel, by decide +kernel⟩
def o_index_code : Nat → Bool := fun i => i == 1
def sp_index_code : S1_ := fun ds P => ∃ n ns, ds = [.tuple (nums ns)] ∧ Row n ns ∧ n ≤ 1000 ∧ P (.tuple (nums (xcode ns)))

def g_index_code : FS_ := gSeq (gPar (fpN 1 (fLst fANil) (fpE 2 (fC (.int 0)) (fpNil)))) (gSeq (fFor (fRange1 (fACons (fCB sLen (fACons (fVar 0) fANil)) fANil)) (gVar 3) (gSeq (gSet 4 (fCall sp_index_of (fACons (fL (fComp [5] (fSeq (fVar 0)) (gVar 5) (fTest (fOp sLe (fVar 5) (fVar 3))) (fVar 5))) fANil))) (gSeq (gAppend 1 (fOp sSub (fVar 4) (fVar 2))) (gSet 2 (fVar 4))))) (gRet (fCB sTuple (fACons (fVar 1) fANil))))
section
variable {P : Program} {w : World} {K : PySem.W.Frag} {mg : Str → Option Value} {base : Heap} {x : Sx}
theorem d_index_code (M : Mgs K mg) (c_index_of : Cal P w K mg base 2 "index_of" (spF K x sp_index_of)) (f : Addr) (cdv : Value) (A : Around) (outer : List Env) (s0 : Shared) (H : Hp) (E : XK) (hgd : A.guards = some []) (hr : Room 2 (A.deeper (envOfC "index_code" (defScope st_index_code) s0.heap.objs.size f cdv))) :
    FSs x o_index_code (cxF P w K mg base n_index_code "index_code" st_index_code f cdv A outer s0 H E) (defBody st_index_code) g_index_code := by
  have S := scp_index_code
  exact (fss_cons (fs_par rfl S.nd (fp_n (i := 1) (fn_lst fa_nil) (fp_e (i := 2) fe_int fp_nil)) (by rfl))
    (fss_cons (fs_for PassesOwn.never rfl (fi_range1 (by rfl) M.z_range (fab_cons (fb_of (fe_callB call_len_seq s_len (by rfl) M.z_len bt_len (fab_cons (fb_of (fe_var 0)) fab_nil))) fab_nil)) (gw_name S.nd) (fss_cons (fs_set (i := 4) S.nd (fe_call c_index_of (guards_deeper hgd _) hr (by decide) (by rfl) (fa_cons (fe_new (fn_comp (own := [("one", 5)]) rfl S.nd (fi_seqB (fb_of (fe_var 0))) (fun _ h => h) (blkOk_by rfl) (fun _ _ _ _ _ => (gw_name S.nd)) (fun _ _ _ _ _ => (fts_one (ft_cmp op_le s_cmp (nomark _) (fb_of (fe_var 5)) (fb_of (fe_var 3))))) (fun _ _ _ _ _ => (fe_var 5)))) fa_nil)))
    (fss_cons (fs_append (i := 1) (fe_op op_sub s_sub (fb_of (fe_var 4)) (fb_of (fe_var 2))))
    (fss_one (fs_set (i := 2) S.nd (fe_var 4))))))
    (fss_one (fs_ret (fe_callT call_tupleF s_tuple (by rfl) M.z_tuple bt_tuple (fab_cons (fb_own 1) fab_nil))))))
end
theorem len_index_code (ds : List PyData) (Q : PyData → Prop) (h : sp_index_code ds Q) : ds.length = 1 := by
  obtain ⟨n, ns, e, _⟩ := h
  rw [e]; rfl
theorem h_index_code (ds : List PyData) (Q : PyData → Prop) (h : sp_index_code ds Q) : g_index_code { nx := fun _ => Q .none, rt := Q } (ds.map some ++ List.replicate (n_index_code.length - ds.length) none) := by
  obtain ⟨n, ns, rfl, hr, hl, q⟩ := h
  have hlen := hr.len
  have hb : (-(2 ^ 62) ≤ ((nums ns).length : Int) ∧ ((nums ns).length : Int) < 2 ^ 62) := by rw [nums_len]; omega
  have el : ((nums ns).length : Int).toNat = n := by rw [nums_len]; omega
  have xl : (xcode ns).length = n := by unfold xcode; rw [List.length_map, List.length_range, hlen]
  unfold g_index_code
  simp only [gRet, gRetN, gIf, gSeq, gNil, gSet, gSetN, gSetT, gAug, gAugIx, gAppend, gExtend, gInsert, gSetIx, gPar, fpE, fpN, fpT, fpNil, gAsg, gExpr, fVar, fVarT, fC, fOp, fTest, fTAnd, fTOr, fTNot, fAnd, fOr, fNot, fIfE, fTup, fL, fLst, fANil, fACons, fAStar, fCB, fCN, fCall, fCallI, fIsN, fNotN, fNeg, fSl, fO0, fO1, fRevL, fRange1, fRange2, fSeq, fEnum, fZip, fLstRg, fR1, fR2, fIdx, fCnt, fCatN, fRepN, fFor, fComp, sAdd, sSub, sMul, sI2, sB2, sEq, sNe, sEqS, sNeS, sIn, sNotIn, sIx, sLt, sLe, sGt, sGe, sFdiv, sMod, sPow, sLen, sAbs, sInt, sMax2, sMin2, sList, sTuple, sSum, sAll, sAny, sSorted, sRepr, sAddI, gVar, gVarT, gTupD, gsCons, gsNil, kdOf, itemsD, wipeE, fYes, List.map_cons, List.map_nil, List.cons_append, List.nil_append, List.replicate, List.length_cons, List.length_nil, List.set_cons_zero, List.set_cons_succ, List.getElem?_cons_zero, List.getElem?_cons_succ, eqv_int, true_and, n_index_code]
  refine ⟨by decide, hb, ?_⟩
  rw [el, range_enc]
  refine loop_go _ (fun rest env => ∃ j a3 a4 a5, (List.range n).drop j = rest ∧ j ≤ n ∧ env = [some (.tuple (nums ns)), some (.list (nums ((xcode ns).take j))), some (.int (maj (low ns j))), a3, a4, a5]) ?_ ?_ _ _ ⟨0, none, none, none, rfl, Nat.zero_le _, ?_⟩
  · rintro a r env ⟨j, a3, a4, a5, h1, h2, rfl⟩ k' hk
    obtain ⟨rfl, hj, hr2⟩ := drop_range h1
    simp only [gRet, gRetN, gIf, gSeq, gNil, gSet, gSetN, gSetT, gAug, gAugIx, gAppend, gExtend, gInsert, gSetIx, gPar, fpE, fpN, fpT, fpNil, gAsg, gExpr, fVar, fVarT, fC, fOp, fTest, fTAnd, fTOr, fTNot, fAnd, fOr, fNot, fIfE, fTup, fL, fLst, fANil, fACons, fAStar, fCB, fCN, fCall, fCallI, fIsN, fNotN, fNeg, fSl, fO0, fO1, fRevL, fRange1, fRange2, fSeq, fEnum, fZip, fLstRg, fR1, fR2, fIdx, fCnt, fCatN, fRepN, fFor, fComp, sAdd, sSub, sMul, sI2, sB2, sEq, sNe, sEqS, sNeS, sIn, sNotIn, sIx, sLt, sLe, sGt, sGe, sFdiv, sMod, sPow, sLen, sAbs, sInt, sMax2, sMin2, sList, sTuple, sSum, sAll, sAny, sSorted, sRepr, sAddI, gVar, gVarT, gTupD, gsCons, gsNil, kdOf, itemsD, wipeE, fYes, List.map_cons, List.map_nil, List.cons_append, List.nil_append, List.replicate, List.length_cons, List.length_nil, List.set_cons_zero, List.set_cons_succ, List.getElem?_cons_zero, List.getElem?_cons_succ, eqv_int, true_and]
    refine ⟨by rw [nums_len]; omega, ?_⟩
    unfold nums
    refine compL_go _ (fun y => decide (y ≤ (0 + (a : Int)))) (fun y => .int y) _ _ (fun y hy A2 B2 h1 h2 => ?_) ?_
    · simp only [gRet, gRetN, gIf, gSeq, gNil, gSet, gSetN, gSetT, gAug, gAugIx, gAppend, gExtend, gInsert, gSetIx, gPar, fpE, fpN, fpT, fpNil, gAsg, gExpr, fVar, fVarT, fC, fOp, fTest, fTAnd, fTOr, fTNot, fAnd, fOr, fNot, fIfE, fTup, fL, fLst, fANil, fACons, fAStar, fCB, fCN, fCall, fCallI, fIsN, fNotN, fNeg, fSl, fO0, fO1, fRevL, fRange1, fRange2, fSeq, fEnum, fZip, fLstRg, fR1, fR2, fIdx, fCnt, fCatN, fRepN, fFor, fComp, sAdd, sSub, sMul, sI2, sB2, sEq, sNe, sEqS, sNeS, sIn, sNotIn, sIx, sLt, sLe, sGt, sGe, sFdiv, sMod, sPow, sLen, sAbs, sInt, sMax2, sMin2, sList, sTuple, sSum, sAll, sAny, sSorted, sRepr, sAddI, gVar, gVarT, gTupD, gsCons, gsNil, kdOf, itemsD, wipeE, fYes, List.map_cons, List.map_nil, List.cons_append, List.nil_append, List.replicate, List.length_cons, List.length_nil, List.set_cons_zero, List.set_cons_succ, List.getElem?_cons_zero, List.getElem?_cons_succ, eqv_int, true_and]
      cases hd : decide (y ≤ (0 + (a : Int)))
      · exact h2 hd
      · exact h1 hd
    have e0 : (0 + (a : Int)) = a := by omega
    rw [e0, ← low_succ]
    have ll : (low ns ((a : Int) + 1)).length ≤ 1000 := by
      have := List.length_filter_le (fun y => decide (y < (a : Int) + 1)) ns
      unfold low
      omega
    refine ⟨low ns ((a : Int) + 1), _, rfl, .inr rfl, ll, ?_⟩
    simp only [gRet, gRetN, gIf, gSeq, gNil, gSet, gSetN, gSetT, gAug, gAugIx, gAppend, gExtend, gInsert, gSetIx, gPar, fpE, fpN, fpT, fpNil, gAsg, gExpr, fVar, fVarT, fC, fOp, fTest, fTAnd, fTOr, fTNot, fAnd, fOr, fNot, fIfE, fTup, fL, fLst, fANil, fACons, fAStar, fCB, fCN, fCall, fCallI, fIsN, fNotN, fNeg, fSl, fO0, fO1, fRevL, fRange1, fRange2, fSeq, fEnum, fZip, fLstRg, fR1, fR2, fIdx, fCnt, fCatN, fRepN, fFor, fComp, sAdd, sSub, sMul, sI2, sB2, sEq, sNe, sEqS, sNeS, sIn, sNotIn, sIx, sLt, sLe, sGt, sGe, sFdiv, sMod, sPow, sLen, sAbs, sInt, sMax2, sMin2, sList, sTuple, sSum, sAll, sAny, sSorted, sRepr, sAddI, gVar, gVarT, gTupD, gsCons, gsNil, kdOf, itemsD, wipeE, fYes, List.map_cons, List.map_nil, List.cons_append, List.nil_append, List.replicate, List.length_cons, List.length_nil, List.set_cons_zero, List.set_cons_succ, List.getElem?_cons_zero, List.getElem?_cons_succ, eqv_int, true_and]
    refine ⟨by rw [List.length_map, List.length_take]; omega, ?_⟩
    refine hk _ ⟨a + 1, some (.int a), some (.int (maj (low ns ((a : Int) + 1)))), a5, hr2, by omega, ?_⟩
    have e1 : (nums ((xcode ns).take (a + 1))) = (((xcode ns).take a).map PyData.int) ++ [.int (maj (low ns ((a : Int) + 1)) - maj (low ns a))] := by
      unfold nums
      rw [List.take_add_one, List.getElem?_eq_getElem (by omega), List.map_append]
      congr 1
      unfold xcode
      rw [List.getElem_map, List.getElem_range]; rfl
    rw [e1]
    rfl
  · rintro env ⟨j, a3, a4, a5, h1, h2, rfl⟩
    have hj := drop_range_nil h1
    have e : j = n := by omega
    subst e
    simp only [gRet, gRetN, gIf, gSeq, gNil, gSet, gSetN, gSetT, gAug, gAugIx, gAppend, gExtend, gInsert, gSetIx, gPar, fpE, fpN, fpT, fpNil, gAsg, gExpr, fVar, fVarT, fC, fOp, fTest, fTAnd, fTOr, fTNot, fAnd, fOr, fNot, fIfE, fTup, fL, fLst, fANil, fACons, fAStar, fCB, fCN, fCall, fCallI, fIsN, fNotN, fNeg, fSl, fO0, fO1, fRevL, fRange1, fRange2, fSeq, fEnum, fZip, fLstRg, fR1, fR2, fIdx, fCnt, fCatN, fRepN, fFor, fComp, sAdd, sSub, sMul, sI2, sB2, sEq, sNe, sEqS, sNeS, sIn, sNotIn, sIx, sLt, sLe, sGt, sGe, sFdiv, sMod, sPow, sLen, sAbs, sInt, sMax2, sMin2, sList, sTuple, sSum, sAll, sAny, sSorted, sRepr, sAddI, gVar, gVarT, gTupD, gsCons, gsNil, kdOf, itemsD, wipeE, fYes, List.map_cons, List.map_nil, List.cons_append, List.nil_append, List.replicate, List.length_cons, List.length_nil, List.set_cons_zero, List.set_cons_succ, List.getElem?_cons_zero, List.getElem?_cons_succ, eqv_int, true_and]
    rw [List.take_of_length_le (by omega)]
    exact q
  · rw [show ((0 : Nat) : Int) = 0 from rfl, hr.low0]; rfl

theorem ok_index_code {P : Program} {w : World} {K : PySem.W.Frag} {mg : Str → Option Value} {base : Heap} {x : Sx} (M : Mgs K mg) (c_index_of : Cal P w K mg base 2 "index_of" (spF K x sp_index_of)) : Cal P w K mg base 3 "index_code" (spF K x sp_index_code) :=
  calF M.d_index_code scp_index_code (by decide) (by decide) len_index_code (d_index_code M c_index_of) h_index_code
/-! ### index_for_inversions -/
def n_index_for_inversions : List Str := ["row"]
theorem scp_index_for_inversions : FnScope n_index_for_inversions ["row"] (defScope st_index_for_inversions) := ⟨rfl, rfl, rfl, by decide +kernel, rfl, by decide +kernel, by decide +kernel⟩
def o_index_for_inversions : Nat → Bool := fun _ => false
def sp_index_for_inversions : S1_ := fun ds P => ∃ n ns, ds = [.tuple (nums ns)] ∧ Row n ns ∧ n ≤ 1000 ∧ P (.tuple (nums (build posI 0 [] (xcode ns))))

def g_index_for_inversions : FS_ := gRet (fCall sp_row_by_inversions (fACons (fCall sp_index_code (fACons (fVar 0) fANil)) fANil))
section
variable {P : Program} {w : World} {K : PySem.W.Frag} {mg : Str → Option Value} {base : Heap} {x : Sx}
theorem d_index_for_inversions (M : Mgs K mg) (c_index_code : Cal P w K mg base 3 "index_code" (spF K x sp_index_code)) (c_row_by_inversions : Cal P w K mg base 1 "row_by_inversions" (spF K x sp_row_by_inversions)) (f : Addr) (cdv : Value) (A : Around) (outer : List Env) (s0 : Shared) (H : Hp) (E : XK) (hgd : A.guards = some []) (hr : Room 3 (A.deeper (envOfC "index_for_inversions" (defScope st_index_for_inversions) s0.heap.objs.size f cdv))) :
    FSs x o_index_for_inversions (cxF P w K mg base n_index_for_inversions "index_for_inversions" st_index_for_inversions f cdv A outer s0 H E) (defBody st_index_for_inversions) g_index_for_inversions := by
  have S := scp_index_for_inversions
  exact (fss_one (fs_ret (fe_call c_row_by_inversions (guards_deeper hgd _) hr (by decide) (by rfl) (fa_cons (fe_call c_index_code (guards_deeper hgd _) hr (by decide) (by rfl) (fa_cons (fe_var 0) fa_nil)) fa_nil))))
end
theorem len_index_for_inversions (ds : List PyData) (Q : PyData → Prop) (h : sp_index_for_inversions ds Q) : ds.length = 1 := by
  obtain ⟨n, ns, e, _⟩ := h
  rw [e]; rfl
theorem h_index_for_inversions (ds : List PyData) (Q : PyData → Prop) (h : sp_index_for_inversions ds Q) : g_index_for_inversions { nx := fun _ => Q .none, rt := Q } (ds.map some ++ List.replicate (n_index_for_inversions.length - ds.length) none) := by
  obtain ⟨n, ns, rfl, hr, hl, q⟩ := h
  have := hr.len
  unfold g_index_for_inversions
  simp only [gRet, gRetN, gIf, gSeq, gNil, gSet, gSetN, gSetT, gAug, gAugIx, gAppend, gExtend, gInsert, gSetIx, gPar, fpE, fpN, fpT, fpNil, gAsg, gExpr, fVar, fVarT, fC, fOp, fTest, fTAnd, fTOr, fTNot, fAnd, fOr, fNot, fIfE, fTup, fL, fLst, fANil, fACons, fAStar, fCB, fCN, fCall, fCallI, fIsN, fNotN, fNeg, fSl, fO0, fO1, fRevL, fRange1, fRange2, fSeq, fEnum, fZip, fLstRg, fR1, fR2, fIdx, fCnt, fCatN, fRepN, fFor, fComp, sAdd, sSub, sMul, sI2, sB2, sEq, sNe, sEqS, sNeS, sIn, sNotIn, sIx, sLt, sLe, sGt, sGe, sFdiv, sMod, sPow, sLen, sAbs, sInt, sMax2, sMin2, sList, sTuple, sSum, sAll, sAny, sSorted, sRepr, sAddI, gVar, gVarT, gTupD, gsCons, gsNil, kdOf, itemsD, wipeE, fYes, List.map_cons, List.map_nil, List.cons_append, List.nil_append, List.replicate, List.length_cons, List.length_nil, List.set_cons_zero, List.set_cons_succ, List.getElem?_cons_zero, List.getElem?_cons_succ, eqv_int, true_and, n_index_for_inversions]
  exact ⟨n, ns, rfl, hr, hl, xcode ns, rfl, hr.codex, by rw [xlen]; omega, q⟩

theorem ok_index_for_inversions {P : Program} {w : World} {K : PySem.W.Frag} {mg : Str → Option Value} {base : Heap} {x : Sx} (M : Mgs K mg) (c_index_code : Cal P w K mg base 3 "index_code" (spF K x sp_index_code)) (c_row_by_inversions : Cal P w K mg base 1 "row_by_inversions" (spF K x sp_row_by_inversions)) : Cal P w K mg base 4 "index_for_inversions" (spF K x sp_index_for_inversions) :=
  calF M.d_index_for_inversions scp_index_for_inversions (by decide) (by decide) len_index_for_inversions (d_index_for_inversions M c_index_code c_row_by_inversions) h_index_for_inversions
/-! ### law -/
def n_law : List Str := ["script", "source", "n", "every", "most", "indexes", "inversions", "row", "k", "j", "led", "late", "found", "i", "number", "more"]
theorem scp_law : FnScope n_law ["script"] (defScope st_law) := ⟨rfl, rfl, rfl, by decide +kernel, rfl, by decide +kernel, by decide +kernel⟩
def o_law : Nat → Bool := fun i => i == 5 || i == 6 || i == 11

def g_law : FS_ := gSeq (gSet 2 (fOp sAdd (fC (.int 1)) (fCall sp__law_pick (fACons (fVar 1) (fACons (fC (.int 6)) fANil))))) (gSeq (gSet 3 (fCall sp__law_rows (fACons (fVar 2) fANil))) (gSeq (gSet 4 (fOp sFdiv (fOp sMul (fVar 2) (fOp sSub (fVar 2) (fC (.int 1)))) (fC (.int 2)))) (gSeq (gPar (fpN 5 (fRepN (fL (fLst (fACons (fC (.int 0)) fANil))) (fOp sAdd (fVar 4) (fC (.int 1)))) (fpN 6 (fRepN (fL (fLst (fACons (fC (.int 0)) fANil))) (fOp sAdd (fVar 4) (fC (.int 1)))) (fpNil)))) (gSeq (fFor (fSeq (fVar 3)) (gVar 7) (gSeq (gPar (fpE 8 (fCB sSum (fACons (fCall sp__law_falls (fACons (fVar 7) fANil)) fANil)) (fpE 9 (fCall sp__law_inversions (fACons (fVar 7) fANil)) (fpNil)))) (gSeq (gSetIx 5 (fOp sAdd (fOp sIx (fVar 5) (fVar 8)) (fC (.int 1))) (fVar 8)) (gSetIx 6 (fOp sAdd (fOp sIx (fVar 6) (fVar 9)) (fC (.int 1))) (fVar 9))))) (gSeq (gIf (fTOr (fTest (fOp sNe (fVar 5) (fVar 6))) (fTest (fOp sNeS (fCB sRepr (fACons (fCall sp_index_row (fACons (fVar 2) fANil)) fANil)) (fCB sRepr (fACons (fCB sTuple (fACons (fVar 5) fANil)) fANil))))) (gRet (fC (.bool false))) (gNil)) (gSeq (gSetN 10 (fComp [7] (fSeq (fVar 3)) (gVar 7) (fYes) (fCall sp_index_for_inversions (fACons (fVar 7) fANil)))) (gSeq (gIf (fTest (fOp sNe (fL (fCN sSorted (fACons (fVar 10) fANil))) (fVar 3))) (gRet (fC (.bool false))) (gNil)) (gSeq (fFor (fZip (fACons (fVar 3) (fACons (fVar 10) fANil))) (gTupD 2 (gsCons (gVar 7) (gsCons (gVarT 11) gsNil))) (gIf (fTOr (fTest (fOp sNe (fCallI sp__law_inversions (fACons (fVar 11) fANil)) (fCB sSum (fACons (fCall sp__law_falls (fACons (fVar 7) fANil)) fANil)))) (fTest (fOp sNe (fCallI sp_inversions_of (fACons (fVar 11) fANil)) (fCall sp_index_of (fACons (fVar 7) fANil))))) (gRet (fC (.bool false))) (gNil))) (gSeq (gSet 2 (fOp sAdd (fC (.int 1)) (fCall sp__law_pick (fACons (fVar 1) (fACons (fC (.int 12)) fANil))))) (gSeq (gSet 12 (fL (fLst (fACons (fC (.int 1)) fANil)))) (gSeq (fFor (fRange2 (fACons (fC (.int 1)) (fACons (fVar 2) fANil))) (gVar 8) (gSeq (gSetN 11 (fRepN (fL (fLst (fACons (fC (.int 0)) fANil))) (fOp sAdd (fCB sLen (fACons (fVar 12) fANil)) (fVar 8)))) (gSeq (fFor (fEnum (fACons (fVar 12) fANil)) (gTupD 2 (gsCons (gVar 13) (gsCons (gVar 14) gsNil))) (fFor (fRange1 (fACons (fOp sAdd (fVar 8) (fC (.int 1))) fANil)) (gVar 15) (gSetIx 11 (fOp sAdd (fOp sIx (fVar 11) (fOp sAdd (fVar 13) (fVar 15))) (fVar 14)) (fOp sAdd (fVar 13) (fVar 15))))) (gSet 12 (fL (fCN sList (fACons (fVar 11) fANil))))))) (gSeq (gIf (fTOr (fTest (fOp sNeS (fCB sRepr (fACons (fCall sp_index_row (fACons (fVar 2) fANil)) fANil)) (fCB sRepr (fACons (fCB sTuple (fACons (fVar 12) fANil)) fANil)))) (fTOr (fTest (fOp sNe (fCB sSum (fACons (fVar 12) fANil)) (fCall sp__law_product (fACons (fVar 2) fANil)))) (fTest (fOp sNe (fVar 12) (fL (fRevL (fVar 12))))))) (gRet (fC (.bool false))) (gNil)) (gSeq (gSet 7 (fCB sTuple (fACons (fCall sp__law_any_order (fACons (fVar 1) (fACons (fL (fLstRg (fR1 (fVar 2)))) fANil))) fANil))) (gSeq (gIf (fTest (fOp sNe (fCB sSum (fACons (fCall sp__law_falls (fACons (fVar 7) fANil)) fANil)) (fCall sp__law_inversions (fACons (fCall sp_index_for_inversions (fACons (fVar 7) fANil)) fANil)))) (gRet (fC (.bool false))) (gNil)) (gRet (fOp sEq (fCall sp_index_row (fACons (fC (.int 3)) fANil)) (fTup (fACons (fC (.int 1)) (fACons (fC (.int 2)) (fACons (fC (.int 2)) (fACons (fC (.int 1)) fANil)))))))))))))))))))))
section
variable {P : Program} {w : World} {K : PySem.W.Frag} {mg : Str → Option Value} {base : Heap}
theorem d_law (M : Mgs K mg) (s c : Addr) (c__law_any_order : Cal P w K mg base 2 "_law_any_order" (spF K (sx s c) sp__law_any_order)) (c__law_falls : Cal P w K mg base 1 "_law_falls" (spF K (sx s c) sp__law_falls)) (c__law_inversions : Cal P w K mg base 1 "_law_inversions" (spF K (sx s c) sp__law_inversions)) (c__law_pick : Cal P w K mg base 1 "_law_pick" (spF K (sx s c) sp__law_pick)) (c__law_product : Cal P w K mg base 1 "_law_product" (spF K (sx s c) sp__law_product)) (c__law_rows : Cal P w K mg base 1 "_law_rows" (spF K (sx s c) sp__law_rows)) (c_index_for_inversions : Cal P w K mg base 4 "index_for_inversions" (spF K (sx s c) sp_index_for_inversions)) (c_index_of : Cal P w K mg base 2 "index_of" (spF K (sx s c) sp_index_of)) (c_index_row : Cal P w K mg base 1 "index_row" (spF K (sx s c) sp_index_row)) (c_inversions_of : Cal P w K mg base 2 "inversions_of" (spF K (sx s c) sp_inversions_of)) (f : Addr) (cdv : Value) (A : Around) (outer : List Env) (s0 : Shared) (H : Hp) (E : XK) (hgd : A.guards = some []) (hr : Room 4 (A.deeper (envOfC "law" (defScope st_law) s0.heap.objs.size f cdv))) :
    FSs (sx s c) o_law (cxF P w K mg base n_law "law" st_law f cdv A outer s0 H E) (defBody st_law).tail g_law := by
  have S := scp_law
  exact (fss_cons (fs_set (i := 2) S.nd (fe_op op_addAll s_add (fb_of fe_int) (fb_of (fe_call c__law_pick (guards_deeper hgd _) hr (by decide) (by rfl) (fa_cons (fe_var 1) (fa_cons fe_int fa_nil))))))
    (fss_cons (fs_set (i := 3) S.nd (fe_call c__law_rows (guards_deeper hgd _) hr (by decide) (by rfl) (fa_cons (fe_var 2) fa_nil)))
    (fss_cons (fs_set (i := 4) S.nd (fe_op op_fdiv s_fdiv (fb_of (fe_op op_mulAll s_mul (fb_of (fe_var 2)) (fb_of (fe_op op_sub s_sub (fb_of (fe_var 2)) (fb_of fe_int))))) (fb_of fe_int)))
    (fss_cons (fs_par rfl S.nd (fp_n (i := 5) (fn_rep (fb_of (fe_new (fn_lst (fa_cons fe_int fa_nil)))) (fb_of (fe_op op_addAll s_add (fb_of (fe_var 4)) (fb_of fe_int)))) (fp_n (i := 6) (fn_rep (fb_of (fe_new (fn_lst (fa_cons fe_int fa_nil)))) (fb_of (fe_op op_addAll s_add (fb_of (fe_var 4)) (fb_of fe_int)))) fp_nil)) (by rfl))
    (fss_cons (fs_for PassesOwn.never rfl (fi_seq (fe_var 3)) (gw_name S.nd) (fss_cons (fs_par rfl S.nd (fp_e (i := 8) (fe_callB (cr_sumF rfl) s_sum (by rfl) M.z_sum bt_sum (fab_cons (fb_of (fe_call c__law_falls (guards_deeper hgd _) hr (by decide) (by rfl) (fa_cons (fe_var 7) fa_nil))) fab_nil)) (fp_e (i := 9) (fe_call c__law_inversions (guards_deeper hgd _) hr (by decide) (by rfl) (fa_cons (fe_var 7) fa_nil)) fp_nil)) (by rfl))
    (fss_cons (fs_setIx (i := 5) (fe_op op_addAll s_add (fb_of (fe_ix (fb_own 5) (fb_of (fe_var 8)))) (fb_of fe_int)) (fb_of (fe_var 8)))
    (fss_one (fs_setIx (i := 6) (fe_op op_addAll s_add (fb_of (fe_ix (fb_own 6) (fb_of (fe_var 9)))) (fb_of fe_int)) (fb_of (fe_var 9)))))))
    (fss_cons (fs_if (ft_bool (fw_or (ft_cmp (op_neD (hq64 hr)) s_ne (nomark _) (fb_own 5) (fb_own 6)) (fw_or1 (ft_cmp op_ne s_neS (nomark _) (fb_of (fe_callB (call_reprX (guards_deeper hgd _) (hq65 hr)) s_repr (by rfl) M.z_repr bt_repr (fab_cons (fb_of (fe_call c_index_row (guards_deeper hgd _) hr (by decide) (by rfl) (fa_cons (fe_var 2) fa_nil))) fab_nil))) (fb_of (fe_callB (call_reprX (guards_deeper hgd _) (hq65 hr)) s_repr (by rfl) M.z_repr bt_repr (fab_cons (fb_of (fe_callT call_tupleF s_tuple (by rfl) M.z_tuple bt_tuple (fab_cons (fb_own 5) fab_nil))) fab_nil))))))) (fss_one (fs_ret fe_bl)) fss_nil)
    (fss_cons (fs_setLc (i := 10) (own := [("row", 7)]) rfl S.nd (sw_true rfl rfl rfl (by decide +kernel)) (fi_seqB (fb_of (fe_var 3))) (fun _ h => h) (blkOk_by rfl) (fun _ _ _ _ _ => (gw_name S.nd)) (fun _ _ _ _ _ => fts_nil) (fun _ _ _ _ _ => (fe_call c_index_for_inversions (guards_deeper hgd _) hr (by decide) (by rfl) (fa_cons (fe_var 7) fa_nil))))
    (fss_cons (fs_if (ft_cmp (op_neD (hq64 hr)) s_ne (nomark _) (fb_of (fe_new (fn_callB (call_sortX (hq67 hr)) s_sorted (by rfl) M.z_sorted bt_sorted (fab_cons (fb_of (fe_var 10)) fab_nil)))) (fb_of (fe_var 3))) (fss_one (fs_ret fe_bl)) fss_nil)
    (fss_cons (fs_for PassesOwn.never rfl (fi_zip (by rfl) M.z_zip (fa_cons (fe_var 3) (fa_cons (fe_var 10) fa_nil))) (gw_tup rfl (gs_cons (gw_name S.nd) (gs_cons (gw_nameT S.nd) gs_nil))) (fss_one (fs_if (ft_bool (fw_or (ft_cmp (op_neD (hq64 hr)) s_ne (nomark _) (fb_of (fe_callI c__law_inversions (guards_deeper hgd _) hr (by decide) (by rfl) (fab_cons (fb_own 11) fab_nil))) (fb_of (fe_callB (cr_sumF rfl) s_sum (by rfl) M.z_sum bt_sum (fab_cons (fb_of (fe_call c__law_falls (guards_deeper hgd _) hr (by decide) (by rfl) (fa_cons (fe_var 7) fa_nil))) fab_nil)))) (fw_or1 (ft_cmp (op_neD (hq64 hr)) s_ne (nomark _) (fb_of (fe_callI c_inversions_of (guards_deeper hgd _) hr (by decide) (by rfl) (fab_cons (fb_own 11) fab_nil))) (fb_of (fe_call c_index_of (guards_deeper hgd _) hr (by decide) (by rfl) (fa_cons (fe_var 7) fa_nil))))))) (fss_one (fs_ret fe_bl)) fss_nil)))
    (fss_cons (fs_set (i := 2) S.nd (fe_op op_addAll s_add (fb_of fe_int) (fb_of (fe_call c__law_pick (guards_deeper hgd _) hr (by decide) (by rfl) (fa_cons (fe_var 1) (fa_cons fe_int fa_nil))))))
    (fss_cons (fs_set (i := 12) S.nd (fe_new (fn_lst (fa_cons fe_int fa_nil))))
    (fss_cons (fs_for PassesOwn.never rfl (fi_range2 (by rfl) M.z_range (fab_cons (fb_of fe_int) (fab_cons (fb_of (fe_var 2)) fab_nil))) (gw_name S.nd) (fss_cons (fs_own (i := 11) S.nd (fn_rep (fb_of (fe_new (fn_lst (fa_cons fe_int fa_nil)))) (fb_of (fe_op op_addAll s_add (fb_of (fe_callB call_len_seq s_len (by rfl) M.z_len bt_len (fab_cons (fb_of (fe_var 12)) fab_nil))) (fb_of (fe_var 8))))))
    (fss_cons (fs_for PassesOwn.never rfl (fi_enum (by rfl) M.z_enumerate (fa_cons (fe_var 12) fa_nil)) (gw_tup rfl (gs_cons (gw_name S.nd) (gs_cons (gw_name S.nd) gs_nil))) (fss_one (fs_for PassesOwn.never rfl (fi_range1 (by rfl) M.z_range (fab_cons (fb_of (fe_op op_addAll s_add (fb_of (fe_var 8)) (fb_of fe_int))) fab_nil)) (gw_name S.nd) (fss_one (fs_setIx (i := 11) (fe_op op_addAll s_add (fb_of (fe_ix (fb_own 11) (fb_of (fe_op op_addAll s_add (fb_of (fe_var 13)) (fb_of (fe_var 15)))))) (fb_of (fe_var 14))) (fb_of (fe_op op_addAll s_add (fb_of (fe_var 13)) (fb_of (fe_var 15)))))))))
    (fss_one (fs_set (i := 12) S.nd (fe_new (fn_callT call_list_of s_list (by rfl) M.z_list bt_list (fab_cons (fb_own 11) fab_nil))))))))
    (fss_cons (fs_if (ft_bool (fw_or (ft_cmp op_ne s_neS (nomark _) (fb_of (fe_callB (call_reprX (guards_deeper hgd _) (hq65 hr)) s_repr (by rfl) M.z_repr bt_repr (fab_cons (fb_of (fe_call c_index_row (guards_deeper hgd _) hr (by decide) (by rfl) (fa_cons (fe_var 2) fa_nil))) fab_nil))) (fb_of (fe_callB (call_reprX (guards_deeper hgd _) (hq65 hr)) s_repr (by rfl) M.z_repr bt_repr (fab_cons (fb_of (fe_callT call_tupleF s_tuple (by rfl) M.z_tuple bt_tuple (fab_cons (fb_of (fe_var 12)) fab_nil))) fab_nil)))) (fw_or (ft_cmp (op_neD (hq64 hr)) s_ne (nomark _) (fb_of (fe_callB (cr_sumF rfl) s_sum (by rfl) M.z_sum bt_sum (fab_cons (fb_of (fe_var 12)) fab_nil))) (fb_of (fe_call c__law_product (guards_deeper hgd _) hr (by decide) (by rfl) (fa_cons (fe_var 2) fa_nil)))) (fw_or1 (ft_cmp (op_neD (hq64 hr)) s_ne (nomark _) (fb_of (fe_var 12)) (fb_of (fe_new (fn_revL (fb_of (fe_var 12)))))))))) (fss_one (fs_ret fe_bl)) fss_nil)
    (fss_cons (fs_set (i := 7) S.nd (fe_callT call_tupleF s_tuple (by rfl) M.z_tuple bt_tuple (fab_cons (fb_of (fe_call c__law_any_order (guards_deeper hgd _) hr (by decide) (by rfl) (fa_cons (fe_var 1) (fa_cons (fe_new (fn_listRg rfl (by rfl) M.z_list (rg_1 (by rfl) M.z_range (fb_of (fe_var 2))))) fa_nil)))) fab_nil)))
    (fss_cons (fs_if (ft_cmp (op_neD (hq64 hr)) s_ne (nomark _) (fb_of (fe_callB (cr_sumF rfl) s_sum (by rfl) M.z_sum bt_sum (fab_cons (fb_of (fe_call c__law_falls (guards_deeper hgd _) hr (by decide) (by rfl) (fa_cons (fe_var 7) fa_nil))) fab_nil))) (fb_of (fe_call c__law_inversions (guards_deeper hgd _) hr (by decide) (by rfl) (fa_cons (fe_call c_index_for_inversions (guards_deeper hgd _) hr (by decide) (by rfl) (fa_cons (fe_var 7) fa_nil)) fa_nil)))) (fss_one (fs_ret fe_bl)) fss_nil)
    (fss_one (fs_ret (fe_cmp (op_eqD (hq64 hr)) s_eq (nomark _) (fb_of (fe_call c_index_row (guards_deeper hgd _) hr (by decide) (by rfl) (fa_cons fe_int fa_nil))) (fb_of (fe_tup (fa_cons fe_int (fa_cons fe_int (fa_cons fe_int (fa_cons fe_int fa_nil))))))))))))))))))))))))
end
end FL


namespace FL
open PySem PySem.Spec PyProof.Rows L2
theorem sub_perm {α : Type} [DecidableEq α] : ∀ {l1 l2 : List α}, l1.Nodup → (∀ x ∈ l1, x ∈ l2) → l2.length ≤ l1.length → l1.Perm l2
  | [], l2, _, _, h => by
    have : l2 = [] := List.eq_nil_of_length_eq_zero (by simpa using h)
    rw [this]
  | x :: t, l2, nd, hs, h => by
    obtain ⟨a, b, e⟩ := List.append_of_mem (hs x List.mem_cons_self)
    subst e
    have nd' := List.nodup_cons.mp nd
    have ih := sub_perm (l1 := t) (l2 := a ++ b) nd'.2 (fun y hy => by
      have := hs y (List.mem_cons_of_mem _ hy)
      have ne : y ≠ x := fun z => nd'.1 (by rw [← z]; exact hy)
      simp only [List.mem_append, List.mem_cons] at this ⊢
      rcases this with h | h | h
      · exact .inl h
      · exact absurd h ne
      · exact .inr h) (by simp only [List.length_append, List.length_cons] at h ⊢; omega)
    exact (ih.cons x).trans List.perm_middle.symm
theorem lrows_mem (n : Nat) : ∀ m, ∀ r ∈ lrows n m, r.Nodup ∧ ∀ x ∈ r, 0 ≤ x ∧ x < (n : Int)
  | 0, r, h => by
    have : r = [] := by simpa [lrows] using h
    subst this
    exact ⟨List.nodup_nil, fun x hx => by simp at hx⟩
  | m + 1, r, h => by
    obtain ⟨row, h1, h2⟩ := List.mem_flatMap.mp h
    unfold stepRows at h2
    obtain ⟨k, hk, rfl⟩ := List.mem_map.mp h2
    obtain ⟨k1, k2⟩ := List.mem_filter.mp hk
    obtain ⟨nd, el⟩ := lrows_mem n m row h1
    have kn := List.mem_range.mp k1
    have k3 : (k : Int) ∉ row := by simpa using k2
    refine ⟨List.nodup_append.mpr ⟨nd, by simp, fun a ha b hb => ?_⟩, fun x hx => ?_⟩
    · have : b = (k : Int) := by simpa using hb
      rw [this]
      exact fun z => k3 (by rw [← z]; exact ha)
    · rcases List.mem_append.mp hx with q | q
      · exact el x q
      · have : x = (k : Int) := by simpa using q
        omega
theorem lrows_Row {n : Nat} {r : List Int} (h : r ∈ lrows n n) : Row n r := by
  obtain ⟨nd, el⟩ := lrows_mem n n r h
  refine sub_perm nd (fun x hx => ?_) (by rw [lrows_row n n r h]; simp)
  have := el x hx
  exact List.mem_map.mpr ⟨x.toNat, List.mem_range.mpr (by omega), by omega⟩
theorem lrows_all (n : Nat) : ∀ (m : Nat) (r : List Int), r.length = m → r.Nodup → (∀ x ∈ r, 0 ≤ x ∧ x < (n : Int)) → r ∈ lrows n m
  | 0, r, hl, _, _ => by
    have : r = [] := List.eq_nil_of_length_eq_zero hl
    rw [this]; simp [lrows]
  | m + 1, r, hl, nd, el => by
    have ne : r ≠ [] := fun z => by rw [z] at hl; simp at hl
    have e := List.dropLast_concat_getLast ne
    have nd2 := nd
    rw [← e] at nd2
    have na := List.nodup_append.mp nd2
    have ih := lrows_all n m r.dropLast (by rw [List.length_dropLast]; omega) na.1 fun x hx => el x (List.dropLast_subset r hx)
    have hx := el (r.getLast ne) (List.getLast_mem ne)
    refine List.mem_flatMap.mpr ⟨r.dropLast, ih, ?_⟩
    unfold stepRows
    have e2 : (((r.getLast ne).toNat : Nat) : Int) = r.getLast ne := by omega
    refine List.mem_map.mpr ⟨(r.getLast ne).toNat, List.mem_filter.mpr ⟨List.mem_range.mpr (by omega), ?_⟩, by rw [e2]; exact e⟩
    rw [e2]
    have : r.getLast ne ∉ r.dropLast := fun z => na.2.2 _ z _ (List.mem_singleton.mpr rfl) rfl
    simp [this]
theorem Row_lrows {n : Nat} {r : List Int} (h : Row n r) : r ∈ lrows n n := lrows_all n n r h.len h.nodup fun x hx => (h.mem x).mp hx
def ifi (r : List Int) : List Int := build posI 0 [] (xcode r)
theorem ifi_row {n : Nat} {r : List Int} (h : Row n r) : Row n (ifi r) ∧ icode (ifi r) = xcode r ∧ inv (ifi r) = maj r := by
  obtain ⟨a, b⟩ := built_i h.codex
  rw [xlen, h.len] at a
  refine ⟨a, b, ?_⟩
  have s := a.icode_sum
  rw [b, h.xcode_sum] at s
  exact s.symm
theorem lrows_nodup {n : Nat} (h : risesB (tupsD (lrows n n)) = true) : (lrows n n).Nodup := by
  have p := rises_pair h
  unfold tupsD at p
  rw [List.pairwise_map] at p
  refine p.imp fun {a b} hab z => ?_
  subst z
  have : PySem.W.dataLt (.tuple (nums a)) (.tuple (nums a)) = false := (PyProof.Rows.listOrd PyProof.Rows.itemOrd).irrefl _
  rw [this] at hab; cases hab
theorem led_perm {n : Nat} (h : risesB (tupsD (lrows n n)) = true) : ((lrows n n).map ifi).Perm (lrows n n) := by
  refine sub_perm ?_ (fun x hx => ?_) (by rw [List.length_map]; exact Nat.le_refl _)
  · have nd := lrows_nodup h
    unfold List.Nodup at nd ⊢
    rw [List.pairwise_map]
    refine List.Pairwise.imp_of_mem (fun {a b} ha hb hab z => hab ?_) nd
    have ra := lrows_Row ha
    have rb := lrows_Row hb
    have xa := (ifi_row ra).2.1
    have xb := (ifi_row rb).2.1
    rw [z, xb] at xa
    rw [← ra.back_x, ← rb.back_x, xa]
  · obtain ⟨r, hr, rfl⟩ := List.mem_map.mp hx
    exact Row_lrows (ifi_row (lrows_Row hr)).1
/-- how often each value comes -/
def cnts (f : List Int → Int) (m : Nat) (rs : List (List Int)) : List Int := (List.range m).map fun (j : Nat) => ((rs.countP fun r => decide (f r = (j : Int)) : Nat) : Int)
theorem cnts_len (f : List Int → Int) (m : Nat) (rs : List (List Int)) : (cnts f m rs).length = m := by unfold cnts; rw [List.length_map, List.length_range]
theorem cnts_nil (f : List Int → Int) (m : Nat) : cnts f m [] = List.replicate m 0 := by
  unfold cnts
  apply List.ext_getElem (by simp)
  intro i h1 h2
  simp
theorem cnts_snoc (f : List Int → Int) (m : Nat) (rs : List (List Int)) (r : List Int) {k : Nat} (hk : f r = (k : Int)) (hm : k < m) : cnts f m (rs ++ [r]) = (cnts f m rs).set k ((cnts f m rs).getD k 0 + 1) := by
  apply List.ext_getElem (by rw [List.length_set, cnts_len, cnts_len])
  intro i h1 h2
  have hi : i < m := by rw [cnts_len] at h1; exact h1
  rw [List.getElem_set]
  have g : ∀ rs : List (List Int), ∀ (j : Nat) (hj : j < (cnts f m rs).length), (cnts f m rs)[j] = ((rs.countP fun r => decide (f r = (j : Int)) : Nat) : Int) := fun rs j hj => by
    simp only [cnts, List.getElem_map, List.getElem_range]
  rw [g, List.countP_append]
  by_cases e : k = i
  · subst e
    rw [if_pos rfl, List.getD, List.getElem?_eq_getElem (by rw [cnts_len]; exact hm)]
    simp only [Option.getD_some]
    rw [g]
    simp [hk]
  · rw [if_neg e, g]
    have : ¬ f r = (i : Int) := by rw [hk]; omega
    simp [this]
theorem cnts_same {n m : Nat} (h : risesB (tupsD (lrows n n)) = true) : cnts maj m (lrows n n) = cnts inv m (lrows n n) := by
  unfold cnts
  apply List.map_congr_left
  intro j _
  have p := (led_perm h).countP_eq fun r => decide (inv r = (j : Int))
  rw [← p, List.countP_map]
  congr 1
  apply List.countP_congr
  intro r hr
  simp [(ifi_row (lrows_Row hr)).2.2]
theorem fin74 (n : Nat) (n1 : 1 ≤ n) (n2 : n ≤ 6) : risesB (tupsD (lrows n n)) = true ∧ ((lrows n n).all fun r => decide (inv r ≤ ((n * (n - 1) / 2 : Nat) : Int))) = true ∧
    ((List.range (n * (n - 1) / 2 + 1)).map fun (j : Nat) => ((((lrows n n).map inv).countP fun x => decide (x = (j : Int)) : Nat) : Int)) = irow (n - 1) := by
  have h : n = 1 ∨ n = 2 ∨ n = 3 ∨ n = 4 ∨ n = 5 ∨ n = 6 := by omega
  rcases h with rfl | rfl | rfl | rfl | rfl | rfl
  all_goals exact ⟨by decide +kernel, by decide +kernel, by decide +kernel⟩
theorem fin74c (m : Nat) (h : m ≤ 11) : (irow m).sum = prodTo m ∧ (irow m).reverse = irow m ∧ ((irow m).all fun x => decide (0 ≤ x) && decide (x ≤ 1000000000)) = true := by
  have : m = 0 ∨ m = 1 ∨ m = 2 ∨ m = 3 ∨ m = 4 ∨ m = 5 ∨ m = 6 ∨ m = 7 ∨ m = 8 ∨ m = 9 ∨ m = 10 ∨ m = 11 := by omega
  rcases this with rfl | rfl | rfl | rfl | rfl | rfl | rfl | rfl | rfl | rfl | rfl | rfl
  all_goals exact ⟨by decide +kernel, by decide +kernel, by decide +kernel⟩
end FL

namespace FL
open PySem PySem.Spec PyProof.Rows L2
theorem log_mid {i : Int} (h0 : 0 ≤ i) (h1 : i ≤ 1000000000) : i.natAbs.log2 ≤ 30 := by
  by_cases z : i.natAbs = 0
  · rw [z]; decide
  · have := (Nat.log2_lt z).mpr (show i.natAbs < 2 ^ 31 by omega)
    omega
theorem says_mid : ∀ {ns : List Int}, (∀ x ∈ ns, 0 ≤ x ∧ x ≤ 1000000000) → PyData.showableAll (nums ns) = true ∧ wtAll (nums ns) ≤ 35 * ns.length
  | [], _ => ⟨rfl, Nat.le_refl _⟩
  | n :: r, h => by
    have ih := says_mid (ns := r) fun x hx => h x (List.mem_cons_of_mem _ hx)
    have hn := h n List.mem_cons_self
    have l := log_mid hn.1 hn.2
    constructor
    · show (decide (n.natAbs.log2 < 1920) && PyData.showableAll (nums r)) = true
      rw [ih.1, decide_eq_true (by omega)]; rfl
    · show n.natAbs.log2 + 3 + 2 + wtAll (nums r) ≤ 35 * (r.length + 1)
      have := ih.2
      omega
theorem says_tupM {ns : List Int} (h : ∀ x ∈ ns, 0 ≤ x ∧ x ≤ 1000000000) (hl : ns.length ≤ 100000) : Says (.tuple (nums ns)) := by
  obtain ⟨a, b⟩ := says_mid h
  refine ⟨(fit_nums ns).1, a, ?_⟩
  show wtAll (nums ns) + 3 ≤ _
  omega
theorem irow_says (m : Nat) (h : m ≤ 11) : Says (.tuple (nums (irow m))) := by
  refine says_tupM (fun x hx => ?_) (by have := irow_small m h; omega)
  have := List.all_eq_true.mp (fin74c m h).2.2 x hx
  simpa using this
theorem h_law : g_law { nx := fun _ => False, rt := fun d => d = .bool true } (none :: some srcD :: List.replicate 14 none) := by
  unfold g_law
  -- n
  refine gseq_go fun K hK => ?_
  simp only [gRet, gRetN, gIf, gSeq, gNil, gSet, gSetN, gSetT, gAug, gAugIx, gAppend, gExtend, gInsert, gSetIx, gPar, fpE, fpN, fpT, fpNil, gAsg, gExpr, fVar, fVarT, fC, fOp, fTest, fTAnd, fTOr, fTNot, fAnd, fOr, fNot, fIfE, fTup, fL, fLst, fANil, fACons, fAStar, fCB, fCN, fCall, fCallI, fIsN, fNotN, fNeg, fSl, fO0, fO1, fRevL, fRange1, fRange2, fSeq, fEnum, fZip, fLstRg, fR1, fR2, fIdx, fCnt, fCatN, fRepN, fFor, fComp, sAdd, sSub, sMul, sI2, sB2, sEq, sNe, sEqS, sNeS, sIn, sNotIn, sIx, sLt, sLe, sGt, sGe, sFdiv, sMod, sPow, sLen, sAbs, sInt, sMax2, sMin2, sList, sTuple, sSum, sAll, sAny, sSorted, sRepr, sAddI, gVar, gVarT, gTupD, gsCons, gsNil, kdOf, itemsD, wipeE, fYes, List.map_cons, List.map_nil, List.cons_append, List.nil_append, List.replicate, List.length_cons, List.length_nil, List.set_cons_zero, List.set_cons_succ, List.getElem?_cons_zero, List.getElem?_cons_succ, eqv_int, true_and]
  refine ⟨6, rfl, by decide, fun r0 _ hr0 => ?_⟩
  have hb := hr0 (by decide)
  obtain ⟨n, hn, n1, n2⟩ : ∃ n : Nat, 1 + r0 = (n : Int) ∧ 1 ≤ n ∧ n ≤ 6 := ⟨(1 + r0).toNat, by omega, by omega, by omega⟩
  simp only [hn, hK]
  -- every
  refine gseq_go fun K hK => ?_
  simp only [gRet, gRetN, gIf, gSeq, gNil, gSet, gSetN, gSetT, gAug, gAugIx, gAppend, gExtend, gInsert, gSetIx, gPar, fpE, fpN, fpT, fpNil, gAsg, gExpr, fVar, fVarT, fC, fOp, fTest, fTAnd, fTOr, fTNot, fAnd, fOr, fNot, fIfE, fTup, fL, fLst, fANil, fACons, fAStar, fCB, fCN, fCall, fCallI, fIsN, fNotN, fNeg, fSl, fO0, fO1, fRevL, fRange1, fRange2, fSeq, fEnum, fZip, fLstRg, fR1, fR2, fIdx, fCnt, fCatN, fRepN, fFor, fComp, sAdd, sSub, sMul, sI2, sB2, sEq, sNe, sEqS, sNeS, sIn, sNotIn, sIx, sLt, sLe, sGt, sGe, sFdiv, sMod, sPow, sLen, sAbs, sInt, sMax2, sMin2, sList, sTuple, sSum, sAll, sAny, sSorted, sRepr, sAddI, gVar, gVarT, gTupD, gsCons, gsNil, kdOf, itemsD, wipeE, fYes, List.map_cons, List.map_nil, List.cons_append, List.nil_append, List.replicate, List.length_cons, List.length_nil, List.set_cons_zero, List.set_cons_succ, List.getElem?_cons_zero, List.getElem?_cons_succ, eqv_int, true_and]
  refine ⟨n, rfl, n2, ?_⟩
  simp only [hK]
  -- most
  refine gseq_go fun K hK => ?_
  simp only [gRet, gRetN, gIf, gSeq, gNil, gSet, gSetN, gSetT, gAug, gAugIx, gAppend, gExtend, gInsert, gSetIx, gPar, fpE, fpN, fpT, fpNil, gAsg, gExpr, fVar, fVarT, fC, fOp, fTest, fTAnd, fTOr, fTNot, fAnd, fOr, fNot, fIfE, fTup, fL, fLst, fANil, fACons, fAStar, fCB, fCN, fCall, fCallI, fIsN, fNotN, fNeg, fSl, fO0, fO1, fRevL, fRange1, fRange2, fSeq, fEnum, fZip, fLstRg, fR1, fR2, fIdx, fCnt, fCatN, fRepN, fFor, fComp, sAdd, sSub, sMul, sI2, sB2, sEq, sNe, sEqS, sNeS, sIn, sNotIn, sIx, sLt, sLe, sGt, sGe, sFdiv, sMod, sPow, sLen, sAbs, sInt, sMax2, sMin2, sList, sTuple, sSum, sAll, sAny, sSorted, sRepr, sAddI, gVar, gVarT, gTupD, gsCons, gsNil, kdOf, itemsD, wipeE, fYes, List.map_cons, List.map_nil, List.cons_append, List.nil_append, List.replicate, List.length_cons, List.length_nil, List.set_cons_zero, List.set_cons_succ, List.getElem?_cons_zero, List.getElem?_cons_succ, eqv_int, true_and]
  refine ⟨mulW_small (by omega) (by omega), ⟨by decide, by decide⟩, ?_⟩
  have em : (n : Int) * ((n : Int) - 1) / 2 = ((n * (n - 1) / 2 : Nat) : Int) := by
    rw [show (n : Int) - 1 = ((n - 1 : Nat) : Int) by omega, ← Int.natCast_mul]; rfl
  have mb : n * (n - 1) / 2 ≤ 15 := by
    have : n * (n - 1) ≤ 6 * 5 := Nat.mul_le_mul n2 (by omega)
    omega
  simp only [em, hK]
  have rises := (fin74 n n1 n2).1
  have invb := (fin74 n n1 n2).2.1
  have cinv := (fin74 n n1 n2).2.2
  generalize hm : n * (n - 1) / 2 = most at em mb invb cinv
  -- indexes, inversions
  refine gseq_go fun K hK => ?_
  simp only [gRet, gRetN, gIf, gSeq, gNil, gSet, gSetN, gSetT, gAug, gAugIx, gAppend, gExtend, gInsert, gSetIx, gPar, fpE, fpN, fpT, fpNil, gAsg, gExpr, fVar, fVarT, fC, fOp, fTest, fTAnd, fTOr, fTNot, fAnd, fOr, fNot, fIfE, fTup, fL, fLst, fANil, fACons, fAStar, fCB, fCN, fCall, fCallI, fIsN, fNotN, fNeg, fSl, fO0, fO1, fRevL, fRange1, fRange2, fSeq, fEnum, fZip, fLstRg, fR1, fR2, fIdx, fCnt, fCatN, fRepN, fFor, fComp, sAdd, sSub, sMul, sI2, sB2, sEq, sNe, sEqS, sNeS, sIn, sNotIn, sIx, sLt, sLe, sGt, sGe, sFdiv, sMod, sPow, sLen, sAbs, sInt, sMax2, sMin2, sList, sTuple, sSum, sAll, sAny, sSorted, sRepr, sAddI, gVar, gVarT, gTupD, gsCons, gsNil, kdOf, itemsD, wipeE, fYes, List.map_cons, List.map_nil, List.cons_append, List.nil_append, List.replicate, List.length_cons, List.length_nil, List.set_cons_zero, List.set_cons_succ, List.getElem?_cons_zero, List.getElem?_cons_succ, eqv_int, true_and]
  have e1 : ((most : Int) + 1).toNat = most + 1 := by omega
  refine ⟨by decide, ⟨by omega, by omega, by omega⟩, by decide, ⟨by omega, by omega, by omega⟩, ?_⟩
  rw [e1, nums_rep]
  simp only [hK]
  -- the counts
  refine gseq_go fun K hK => ?_
  simp only [gRet, gRetN, gIf, gSeq, gNil, gSet, gSetN, gSetT, gAug, gAugIx, gAppend, gExtend, gInsert, gSetIx, gPar, fpE, fpN, fpT, fpNil, gAsg, gExpr, fVar, fVarT, fC, fOp, fTest, fTAnd, fTOr, fTNot, fAnd, fOr, fNot, fIfE, fTup, fL, fLst, fANil, fACons, fAStar, fCB, fCN, fCall, fCallI, fIsN, fNotN, fNeg, fSl, fO0, fO1, fRevL, fRange1, fRange2, fSeq, fEnum, fZip, fLstRg, fR1, fR2, fIdx, fCnt, fCatN, fRepN, fFor, fComp, sAdd, sSub, sMul, sI2, sB2, sEq, sNe, sEqS, sNeS, sIn, sNotIn, sIx, sLt, sLe, sGt, sGe, sFdiv, sMod, sPow, sLen, sAbs, sInt, sMax2, sMin2, sList, sTuple, sSum, sAll, sAny, sSorted, sRepr, sAddI, gVar, gVarT, gTupD, gsCons, gsNil, kdOf, itemsD, wipeE, fYes, List.map_cons, List.map_nil, List.cons_append, List.nil_append, List.replicate, List.length_cons, List.length_nil, List.set_cons_zero, List.set_cons_succ, List.getElem?_cons_zero, List.getElem?_cons_succ, eqv_int, true_and]
  have ib : ∀ r ∈ lrows n n, 0 ≤ inv r ∧ inv r ≤ most := fun r hr => by
    have h1 := of_decide_eq_true (List.all_eq_true.mp invb r hr)
    have h2 := inv_small (ns := r) (by rw [lrows_row n n r hr]; omega)
    omega
  have jb : ∀ r ∈ lrows n n, 0 ≤ maj r ∧ maj r ≤ most := fun r hr => by
    have := ifi_row (lrows_Row hr)
    have q := ib _ (Row_lrows this.1)
    rw [this.2.2] at q
    exact q
  unfold rowsD
  refine loop_go _ (fun rest env => ∃ don a7 a8 a9, don ++ rest = lrows n n ∧ env = [none, some srcD, some (.int (n : Int)), some (.list (rowsD (lrows n n))), some (.int (most : Int)), some (.list (nums (cnts maj (most + 1) don))), some (.list (nums (cnts inv (most + 1) don))), a7, a8, a9, none, none, none, none, none, none]) ?_ ?_ _ _ ⟨[], none, none, none, rfl, by rw [cnts_nil, cnts_nil]; rfl⟩
  · rintro r rest env ⟨don, a7, a8, a9, h1, rfl⟩ k' hk
    have hr : r ∈ lrows n n := by rw [← h1]; exact List.mem_append_right _ List.mem_cons_self
    have rl := lrows_row n n r hr
    obtain ⟨k, hk1, hk2⟩ : ∃ k : Nat, maj r = (k : Int) ∧ k < most + 1 := ⟨(maj r).toNat, by have := jb r hr; omega, by have := jb r hr; omega⟩
    obtain ⟨j, hj1, hj2⟩ : ∃ j : Nat, inv r = (j : Int) ∧ j < most + 1 := ⟨(inv r).toNat, by have := ib r hr; omega, by have := ib r hr; omega⟩
    have c1 := cnts_len maj (most + 1) don
    have c2 := cnts_len inv (most + 1) don
    simp only [gVar, List.set_cons_zero, List.set_cons_succ]
    refine gseq_go fun K2 hK2 => ?_
    simp only [gRet, gRetN, gIf, gSeq, gNil, gSet, gSetN, gSetT, gAug, gAugIx, gAppend, gExtend, gInsert, gSetIx, gPar, fpE, fpN, fpT, fpNil, gAsg, gExpr, fVar, fVarT, fC, fOp, fTest, fTAnd, fTOr, fTNot, fAnd, fOr, fNot, fIfE, fTup, fL, fLst, fANil, fACons, fAStar, fCB, fCN, fCall, fCallI, fIsN, fNotN, fNeg, fSl, fO0, fO1, fRevL, fRange1, fRange2, fSeq, fEnum, fZip, fLstRg, fR1, fR2, fIdx, fCnt, fCatN, fRepN, fFor, fComp, sAdd, sSub, sMul, sI2, sB2, sEq, sNe, sEqS, sNeS, sIn, sNotIn, sIx, sLt, sLe, sGt, sGe, sFdiv, sMod, sPow, sLen, sAbs, sInt, sMax2, sMin2, sList, sTuple, sSum, sAll, sAny, sSorted, sRepr, sAddI, gVar, gVarT, gTupD, gsCons, gsNil, kdOf, itemsD, wipeE, fYes, List.map_cons, List.map_nil, List.cons_append, List.nil_append, List.replicate, List.length_cons, List.length_nil, List.set_cons_zero, List.set_cons_succ, List.getElem?_cons_zero, List.getElem?_cons_succ, eqv_int, true_and]
    refine ⟨r, _, rfl, .inl rfl, by omega, ?_⟩
    simp only [gRet, gRetN, gIf, gSeq, gNil, gSet, gSetN, gSetT, gAug, gAugIx, gAppend, gExtend, gInsert, gSetIx, gPar, fpE, fpN, fpT, fpNil, gAsg, gExpr, fVar, fVarT, fC, fOp, fTest, fTAnd, fTOr, fTNot, fAnd, fOr, fNot, fIfE, fTup, fL, fLst, fANil, fACons, fAStar, fCB, fCN, fCall, fCallI, fIsN, fNotN, fNeg, fSl, fO0, fO1, fRevL, fRange1, fRange2, fSeq, fEnum, fZip, fLstRg, fR1, fR2, fIdx, fCnt, fCatN, fRepN, fFor, fComp, sAdd, sSub, sMul, sI2, sB2, sEq, sNe, sEqS, sNeS, sIn, sNotIn, sIx, sLt, sLe, sGt, sGe, sFdiv, sMod, sPow, sLen, sAbs, sInt, sMax2, sMin2, sList, sTuple, sSum, sAll, sAny, sSorted, sRepr, sAddI, gVar, gVarT, gTupD, gsCons, gsNil, kdOf, itemsD, wipeE, fYes, List.map_cons, List.map_nil, List.cons_append, List.nil_append, List.replicate, List.length_cons, List.length_nil, List.set_cons_zero, List.set_cons_succ, List.getElem?_cons_zero, List.getElem?_cons_succ, eqv_int, true_and, intsOf_nums, maj_eq]
    refine ⟨r, _, rfl, .inl rfl, by omega, ?_⟩
    rw [hk1, hj1]
    simp only [hK2]
    refine gseq_go fun K2 hK2 => ?_
    simp only [gRet, gRetN, gIf, gSeq, gNil, gSet, gSetN, gSetT, gAug, gAugIx, gAppend, gExtend, gInsert, gSetIx, gPar, fpE, fpN, fpT, fpNil, gAsg, gExpr, fVar, fVarT, fC, fOp, fTest, fTAnd, fTOr, fTNot, fAnd, fOr, fNot, fIfE, fTup, fL, fLst, fANil, fACons, fAStar, fCB, fCN, fCall, fCallI, fIsN, fNotN, fNeg, fSl, fO0, fO1, fRevL, fRange1, fRange2, fSeq, fEnum, fZip, fLstRg, fR1, fR2, fIdx, fCnt, fCatN, fRepN, fFor, fComp, sAdd, sSub, sMul, sI2, sB2, sEq, sNe, sEqS, sNeS, sIn, sNotIn, sIx, sLt, sLe, sGt, sGe, sFdiv, sMod, sPow, sLen, sAbs, sInt, sMax2, sMin2, sList, sTuple, sSum, sAll, sAny, sSorted, sRepr, sAddI, gVar, gVarT, gTupD, gsCons, gsNil, kdOf, itemsD, wipeE, fYes, List.map_cons, List.map_nil, List.cons_append, List.nil_append, List.replicate, List.length_cons, List.length_nil, List.set_cons_zero, List.set_cons_succ, List.getElem?_cons_zero, List.getElem?_cons_succ, eqv_int, true_and]
    rw [at1 (ns := cnts maj (most + 1) don) (i := k) (by omega) (j := (k : Int)) rfl]
    simp only [gRet, gRetN, gIf, gSeq, gNil, gSet, gSetN, gSetT, gAug, gAugIx, gAppend, gExtend, gInsert, gSetIx, gPar, fpE, fpN, fpT, fpNil, gAsg, gExpr, fVar, fVarT, fC, fOp, fTest, fTAnd, fTOr, fTNot, fAnd, fOr, fNot, fIfE, fTup, fL, fLst, fANil, fACons, fAStar, fCB, fCN, fCall, fCallI, fIsN, fNotN, fNeg, fSl, fO0, fO1, fRevL, fRange1, fRange2, fSeq, fEnum, fZip, fLstRg, fR1, fR2, fIdx, fCnt, fCatN, fRepN, fFor, fComp, sAdd, sSub, sMul, sI2, sB2, sEq, sNe, sEqS, sNeS, sIn, sNotIn, sIx, sLt, sLe, sGt, sGe, sFdiv, sMod, sPow, sLen, sAbs, sInt, sMax2, sMin2, sList, sTuple, sSum, sAll, sAny, sSorted, sRepr, sAddI, gVar, gVarT, gTupD, gsCons, gsNil, kdOf, itemsD, wipeE, fYes, List.map_cons, List.map_nil, List.cons_append, List.nil_append, List.replicate, List.length_cons, List.length_nil, List.set_cons_zero, List.set_cons_succ, List.getElem?_cons_zero, List.getElem?_cons_succ, eqv_int, true_and]
    rw [nums_len, ixN_nat (show k < (cnts maj (most + 1) don).length by omega)]
    simp only [gRet, gRetN, gIf, gSeq, gNil, gSet, gSetN, gSetT, gAug, gAugIx, gAppend, gExtend, gInsert, gSetIx, gPar, fpE, fpN, fpT, fpNil, gAsg, gExpr, fVar, fVarT, fC, fOp, fTest, fTAnd, fTOr, fTNot, fAnd, fOr, fNot, fIfE, fTup, fL, fLst, fANil, fACons, fAStar, fCB, fCN, fCall, fCallI, fIsN, fNotN, fNeg, fSl, fO0, fO1, fRevL, fRange1, fRange2, fSeq, fEnum, fZip, fLstRg, fR1, fR2, fIdx, fCnt, fCatN, fRepN, fFor, fComp, sAdd, sSub, sMul, sI2, sB2, sEq, sNe, sEqS, sNeS, sIn, sNotIn, sIx, sLt, sLe, sGt, sGe, sFdiv, sMod, sPow, sLen, sAbs, sInt, sMax2, sMin2, sList, sTuple, sSum, sAll, sAny, sSorted, sRepr, sAddI, gVar, gVarT, gTupD, gsCons, gsNil, kdOf, itemsD, wipeE, fYes, List.map_cons, List.map_nil, List.cons_append, List.nil_append, List.replicate, List.length_cons, List.length_nil, List.set_cons_zero, List.set_cons_succ, List.getElem?_cons_zero, List.getElem?_cons_succ, eqv_int, true_and]
    rw [nums_set, ← cnts_snoc maj (most + 1) don r hk1 hk2]
    simp only [hK2]
    simp only [gRet, gRetN, gIf, gSeq, gNil, gSet, gSetN, gSetT, gAug, gAugIx, gAppend, gExtend, gInsert, gSetIx, gPar, fpE, fpN, fpT, fpNil, gAsg, gExpr, fVar, fVarT, fC, fOp, fTest, fTAnd, fTOr, fTNot, fAnd, fOr, fNot, fIfE, fTup, fL, fLst, fANil, fACons, fAStar, fCB, fCN, fCall, fCallI, fIsN, fNotN, fNeg, fSl, fO0, fO1, fRevL, fRange1, fRange2, fSeq, fEnum, fZip, fLstRg, fR1, fR2, fIdx, fCnt, fCatN, fRepN, fFor, fComp, sAdd, sSub, sMul, sI2, sB2, sEq, sNe, sEqS, sNeS, sIn, sNotIn, sIx, sLt, sLe, sGt, sGe, sFdiv, sMod, sPow, sLen, sAbs, sInt, sMax2, sMin2, sList, sTuple, sSum, sAll, sAny, sSorted, sRepr, sAddI, gVar, gVarT, gTupD, gsCons, gsNil, kdOf, itemsD, wipeE, fYes, List.map_cons, List.map_nil, List.cons_append, List.nil_append, List.replicate, List.length_cons, List.length_nil, List.set_cons_zero, List.set_cons_succ, List.getElem?_cons_zero, List.getElem?_cons_succ, eqv_int, true_and]
    rw [at1 (ns := cnts inv (most + 1) don) (i := j) (by omega) (j := (j : Int)) rfl]
    simp only [gRet, gRetN, gIf, gSeq, gNil, gSet, gSetN, gSetT, gAug, gAugIx, gAppend, gExtend, gInsert, gSetIx, gPar, fpE, fpN, fpT, fpNil, gAsg, gExpr, fVar, fVarT, fC, fOp, fTest, fTAnd, fTOr, fTNot, fAnd, fOr, fNot, fIfE, fTup, fL, fLst, fANil, fACons, fAStar, fCB, fCN, fCall, fCallI, fIsN, fNotN, fNeg, fSl, fO0, fO1, fRevL, fRange1, fRange2, fSeq, fEnum, fZip, fLstRg, fR1, fR2, fIdx, fCnt, fCatN, fRepN, fFor, fComp, sAdd, sSub, sMul, sI2, sB2, sEq, sNe, sEqS, sNeS, sIn, sNotIn, sIx, sLt, sLe, sGt, sGe, sFdiv, sMod, sPow, sLen, sAbs, sInt, sMax2, sMin2, sList, sTuple, sSum, sAll, sAny, sSorted, sRepr, sAddI, gVar, gVarT, gTupD, gsCons, gsNil, kdOf, itemsD, wipeE, fYes, List.map_cons, List.map_nil, List.cons_append, List.nil_append, List.replicate, List.length_cons, List.length_nil, List.set_cons_zero, List.set_cons_succ, List.getElem?_cons_zero, List.getElem?_cons_succ, eqv_int, true_and]
    rw [nums_len, ixN_nat (show j < (cnts inv (most + 1) don).length by omega)]
    simp only [gRet, gRetN, gIf, gSeq, gNil, gSet, gSetN, gSetT, gAug, gAugIx, gAppend, gExtend, gInsert, gSetIx, gPar, fpE, fpN, fpT, fpNil, gAsg, gExpr, fVar, fVarT, fC, fOp, fTest, fTAnd, fTOr, fTNot, fAnd, fOr, fNot, fIfE, fTup, fL, fLst, fANil, fACons, fAStar, fCB, fCN, fCall, fCallI, fIsN, fNotN, fNeg, fSl, fO0, fO1, fRevL, fRange1, fRange2, fSeq, fEnum, fZip, fLstRg, fR1, fR2, fIdx, fCnt, fCatN, fRepN, fFor, fComp, sAdd, sSub, sMul, sI2, sB2, sEq, sNe, sEqS, sNeS, sIn, sNotIn, sIx, sLt, sLe, sGt, sGe, sFdiv, sMod, sPow, sLen, sAbs, sInt, sMax2, sMin2, sList, sTuple, sSum, sAll, sAny, sSorted, sRepr, sAddI, gVar, gVarT, gTupD, gsCons, gsNil, kdOf, itemsD, wipeE, fYes, List.map_cons, List.map_nil, List.cons_append, List.nil_append, List.replicate, List.length_cons, List.length_nil, List.set_cons_zero, List.set_cons_succ, List.getElem?_cons_zero, List.getElem?_cons_succ, eqv_int, true_and]
    rw [nums_set, ← cnts_snoc inv (most + 1) don r hj1 hj2]
    exact hk _ ⟨don ++ [r], _, _, _, by rw [List.append_assoc]; exact h1, rfl⟩
  rintro env ⟨don, a7, a8, a9, h1, rfl⟩
  rw [List.append_nil] at h1
  subst h1
  simp only [hK]
  -- compared
  refine gseq_go fun K hK => ?_
  simp only [gRet, gRetN, gIf, gSeq, gNil, gSet, gSetN, gSetT, gAug, gAugIx, gAppend, gExtend, gInsert, gSetIx, gPar, fpE, fpN, fpT, fpNil, gAsg, gExpr, fVar, fVarT, fC, fOp, fTest, fTAnd, fTOr, fTNot, fAnd, fOr, fNot, fIfE, fTup, fL, fLst, fANil, fACons, fAStar, fCB, fCN, fCall, fCallI, fIsN, fNotN, fNeg, fSl, fO0, fO1, fRevL, fRange1, fRange2, fSeq, fEnum, fZip, fLstRg, fR1, fR2, fIdx, fCnt, fCatN, fRepN, fFor, fComp, sAdd, sSub, sMul, sI2, sB2, sEq, sNe, sEqS, sNeS, sIn, sNotIn, sIx, sLt, sLe, sGt, sGe, sFdiv, sMod, sPow, sLen, sAbs, sInt, sMax2, sMin2, sList, sTuple, sSum, sAll, sAny, sSorted, sRepr, sAddI, gVar, gVarT, gTupD, gsCons, gsNil, kdOf, itemsD, wipeE, fYes, List.map_cons, List.map_nil, List.cons_append, List.nil_append, List.replicate, List.length_cons, List.length_nil, List.set_cons_zero, List.set_cons_succ, List.getElem?_cons_zero, List.getElem?_cons_succ, eqv_int, true_and]
  have hm1 : most + 1 = most + 1 := rfl
  have ci : cnts inv (most + 1) (lrows n n) = irow (n - 1) := by
    rw [← cinv]
    unfold cnts
    apply List.map_congr_left
    intro j _
    rw [List.countP_map]; rfl
  have cm : cnts maj (most + 1) (lrows n n) = irow (n - 1) := by rw [cnts_same rises, ci]
  rw [cm, ci]
  have fi := fit_nums (irow (n - 1))
  refine ⟨fi.2, fi.2, ?_⟩
  rw [eqv_self fi.2]
  simp only [eq_self, decide_true, Bool.not_true, Bool.not_false]
  refine ⟨n, rfl, n1, by omega, irow_says (n - 1) (by omega), irow_says (n - 1) (by omega), ?_⟩
  simp only [eq_self, decide_true, Bool.not_true, Bool.not_false, hK]
  -- led
  refine gseq_go fun K hK => ?_
  simp only [gRet, gRetN, gIf, gSeq, gNil, gSet, gSetN, gSetT, gAug, gAugIx, gAppend, gExtend, gInsert, gSetIx, gPar, fpE, fpN, fpT, fpNil, gAsg, gExpr, fVar, fVarT, fC, fOp, fTest, fTAnd, fTOr, fTNot, fAnd, fOr, fNot, fIfE, fTup, fL, fLst, fANil, fACons, fAStar, fCB, fCN, fCall, fCallI, fIsN, fNotN, fNeg, fSl, fO0, fO1, fRevL, fRange1, fRange2, fSeq, fEnum, fZip, fLstRg, fR1, fR2, fIdx, fCnt, fCatN, fRepN, fFor, fComp, sAdd, sSub, sMul, sI2, sB2, sEq, sNe, sEqS, sNeS, sIn, sNotIn, sIx, sLt, sLe, sGt, sGe, sFdiv, sMod, sPow, sLen, sAbs, sInt, sMax2, sMin2, sList, sTuple, sSum, sAll, sAny, sSorted, sRepr, sAddI, gVar, gVarT, gTupD, gsCons, gsNil, kdOf, itemsD, wipeE, fYes, List.map_cons, List.map_nil, List.cons_append, List.nil_append, List.replicate, List.length_cons, List.length_nil, List.set_cons_zero, List.set_cons_succ, List.getElem?_cons_zero, List.getElem?_cons_succ, eqv_int, true_and]
  have rl : (lrows n n).length ≤ 46656 := by
    have h1 := lrows_len n n
    have a : n ^ n ≤ 6 ^ n := Nat.pow_le_pow_left n2 n
    have b : 6 ^ n ≤ 6 ^ 6 := Nat.pow_le_pow_right (by decide) n2
    have : (6 : Nat) ^ 6 = 46656 := by decide
    omega
  unfold rowsD
  refine ⟨by rw [List.length_map]; omega, ?_⟩
  refine compL_map _ (fun r => .tuple (nums (ifi r))) _ _ (fun r hr A hA => ?_) ?_
  · simp only [gRet, gRetN, gIf, gSeq, gNil, gSet, gSetN, gSetT, gAug, gAugIx, gAppend, gExtend, gInsert, gSetIx, gPar, fpE, fpN, fpT, fpNil, gAsg, gExpr, fVar, fVarT, fC, fOp, fTest, fTAnd, fTOr, fTNot, fAnd, fOr, fNot, fIfE, fTup, fL, fLst, fANil, fACons, fAStar, fCB, fCN, fCall, fCallI, fIsN, fNotN, fNeg, fSl, fO0, fO1, fRevL, fRange1, fRange2, fSeq, fEnum, fZip, fLstRg, fR1, fR2, fIdx, fCnt, fCatN, fRepN, fFor, fComp, sAdd, sSub, sMul, sI2, sB2, sEq, sNe, sEqS, sNeS, sIn, sNotIn, sIx, sLt, sLe, sGt, sGe, sFdiv, sMod, sPow, sLen, sAbs, sInt, sMax2, sMin2, sList, sTuple, sSum, sAll, sAny, sSorted, sRepr, sAddI, gVar, gVarT, gTupD, gsCons, gsNil, kdOf, itemsD, wipeE, fYes, List.map_cons, List.map_nil, List.cons_append, List.nil_append, List.replicate, List.length_cons, List.length_nil, List.set_cons_zero, List.set_cons_succ, List.getElem?_cons_zero, List.getElem?_cons_succ, eqv_int, true_and]
    exact ⟨n, r, rfl, lrows_Row hr, by omega, hA⟩
  have el : (lrows n n).map (fun r => PyData.tuple (nums (ifi r))) = tupsD ((lrows n n).map ifi) := by
    unfold tupsD
    rw [List.map_map]; rfl
  simp only [el, hK]
  -- sorted
  refine gseq_go fun K hK => ?_
  simp only [gRet, gRetN, gIf, gSeq, gNil, gSet, gSetN, gSetT, gAug, gAugIx, gAppend, gExtend, gInsert, gSetIx, gPar, fpE, fpN, fpT, fpNil, gAsg, gExpr, fVar, fVarT, fC, fOp, fTest, fTAnd, fTOr, fTNot, fAnd, fOr, fNot, fIfE, fTup, fL, fLst, fANil, fACons, fAStar, fCB, fCN, fCall, fCallI, fIsN, fNotN, fNeg, fSl, fO0, fO1, fRevL, fRange1, fRange2, fSeq, fEnum, fZip, fLstRg, fR1, fR2, fIdx, fCnt, fCatN, fRepN, fFor, fComp, sAdd, sSub, sMul, sI2, sB2, sEq, sNe, sEqS, sNeS, sIn, sNotIn, sIx, sLt, sLe, sGt, sGe, sFdiv, sMod, sPow, sLen, sAbs, sInt, sMax2, sMin2, sList, sTuple, sSum, sAll, sAny, sSorted, sRepr, sAddI, gVar, gVarT, gTupD, gsCons, gsNil, kdOf, itemsD, wipeE, fYes, List.map_cons, List.map_nil, List.cons_append, List.nil_append, List.replicate, List.length_cons, List.length_nil, List.set_cons_zero, List.set_cons_succ, List.getElem?_cons_zero, List.getElem?_cons_succ, eqv_int, true_and]
  have s1 : srtD (tupsD ((lrows n n).map ifi)) = tupsD (lrows n n) := srt_one ((led_perm rises).map fun r => PyData.tuple (nums r)) (rises_pair rises)
  have fe := (fit_tups (lrows n n)).1
  rw [s1]
  refine ⟨sorts_tups fun r hr => ?_, fe, fe, ?_⟩
  · obtain ⟨q, hq, rfl⟩ := List.mem_map.mp hr
    have := (ifi_row (lrows_Row hq)).1.len
    intro z
    rw [z] at this
    simp at this
    omega
  have eqf : ((PyData.list (tupsD (lrows n n))).eqv (PyData.list (List.map (fun r => PyData.tuple (nums r)) (lrows n n)))) = true := eqv_self fe
  rw [eqf]
  simp only [eq_self, decide_true, Bool.not_true, Bool.not_false, hK]
  -- zip
  refine gseq_go fun K hK => ?_
  simp only [gRet, gRetN, gIf, gSeq, gNil, gSet, gSetN, gSetT, gAug, gAugIx, gAppend, gExtend, gInsert, gSetIx, gPar, fpE, fpN, fpT, fpNil, gAsg, gExpr, fVar, fVarT, fC, fOp, fTest, fTAnd, fTOr, fTNot, fAnd, fOr, fNot, fIfE, fTup, fL, fLst, fANil, fACons, fAStar, fCB, fCN, fCall, fCallI, fIsN, fNotN, fNeg, fSl, fO0, fO1, fRevL, fRange1, fRange2, fSeq, fEnum, fZip, fLstRg, fR1, fR2, fIdx, fCnt, fCatN, fRepN, fFor, fComp, sAdd, sSub, sMul, sI2, sB2, sEq, sNe, sEqS, sNeS, sIn, sNotIn, sIx, sLt, sLe, sGt, sGe, sFdiv, sMod, sPow, sLen, sAbs, sInt, sMax2, sMin2, sList, sTuple, sSum, sAll, sAny, sSorted, sRepr, sAddI, gVar, gVarT, gTupD, gsCons, gsNil, kdOf, itemsD, wipeE, fYes, List.map_cons, List.map_nil, List.cons_append, List.nil_append, List.replicate, List.length_cons, List.length_nil, List.set_cons_zero, List.set_cons_succ, List.getElem?_cons_zero, List.getElem?_cons_succ, eqv_int, true_and]
  unfold tupsD
  rw [zip_enc]
  refine loop_go _ (fun rest env => (∀ p ∈ rest, Row n p.1 ∧ p.2 = ifi p.1) ∧ ∃ a3 a4 a5 a6 a7 a8 a9 a10 a11, env = [none, some srcD, some (.int (n : Int)), a3, a4, a5, a6, a7, a8, a9, a10, a11, none, none, none, none]) ?_ ?_ _ _ ⟨fun p hp => ?_, _, _, _, _, _, _, _, _, _, rfl⟩
  · rintro p rest env ⟨hp, a3, a4, a5, a6, a7, a8, a9, a10, a11, rfl⟩ k' hk
    obtain ⟨hr, e2⟩ := hp p List.mem_cons_self
    obtain ⟨i1, i2, i3⟩ := ifi_row hr
    have l1 := hr.len
    have l2 := i1.len
    simp only [gRet, gRetN, gIf, gSeq, gNil, gSet, gSetN, gSetT, gAug, gAugIx, gAppend, gExtend, gInsert, gSetIx, gPar, fpE, fpN, fpT, fpNil, gAsg, gExpr, fVar, fVarT, fC, fOp, fTest, fTAnd, fTOr, fTNot, fAnd, fOr, fNot, fIfE, fTup, fL, fLst, fANil, fACons, fAStar, fCB, fCN, fCall, fCallI, fIsN, fNotN, fNeg, fSl, fO0, fO1, fRevL, fRange1, fRange2, fSeq, fEnum, fZip, fLstRg, fR1, fR2, fIdx, fCnt, fCatN, fRepN, fFor, fComp, sAdd, sSub, sMul, sI2, sB2, sEq, sNe, sEqS, sNeS, sIn, sNotIn, sIx, sLt, sLe, sGt, sGe, sFdiv, sMod, sPow, sLen, sAbs, sInt, sMax2, sMin2, sList, sTuple, sSum, sAll, sAny, sSorted, sRepr, sAddI, gVar, gVarT, gTupD, gsCons, gsNil, kdOf, itemsD, wipeE, fYes, List.map_cons, List.map_nil, List.cons_append, List.nil_append, List.replicate, List.length_cons, List.length_nil, List.set_cons_zero, List.set_cons_succ, List.getElem?_cons_zero, List.getElem?_cons_succ, eqv_int, true_and]
    rw [e2]
    refine ⟨(fun ds z => (nomatch z)), ifi p.1, _, rfl, .inl rfl, by omega, rfl, ?_⟩
    simp only [gRet, gRetN, gIf, gSeq, gNil, gSet, gSetN, gSetT, gAug, gAugIx, gAppend, gExtend, gInsert, gSetIx, gPar, fpE, fpN, fpT, fpNil, gAsg, gExpr, fVar, fVarT, fC, fOp, fTest, fTAnd, fTOr, fTNot, fAnd, fOr, fNot, fIfE, fTup, fL, fLst, fANil, fACons, fAStar, fCB, fCN, fCall, fCallI, fIsN, fNotN, fNeg, fSl, fO0, fO1, fRevL, fRange1, fRange2, fSeq, fEnum, fZip, fLstRg, fR1, fR2, fIdx, fCnt, fCatN, fRepN, fFor, fComp, sAdd, sSub, sMul, sI2, sB2, sEq, sNe, sEqS, sNeS, sIn, sNotIn, sIx, sLt, sLe, sGt, sGe, sFdiv, sMod, sPow, sLen, sAbs, sInt, sMax2, sMin2, sList, sTuple, sSum, sAll, sAny, sSorted, sRepr, sAddI, gVar, gVarT, gTupD, gsCons, gsNil, kdOf, itemsD, wipeE, fYes, List.map_cons, List.map_nil, List.cons_append, List.nil_append, List.replicate, List.length_cons, List.length_nil, List.set_cons_zero, List.set_cons_succ, List.getElem?_cons_zero, List.getElem?_cons_succ, eqv_int, true_and]
    refine ⟨p.1, _, rfl, .inl rfl, by omega, ?_⟩
    simp only [gRet, gRetN, gIf, gSeq, gNil, gSet, gSetN, gSetT, gAug, gAugIx, gAppend, gExtend, gInsert, gSetIx, gPar, fpE, fpN, fpT, fpNil, gAsg, gExpr, fVar, fVarT, fC, fOp, fTest, fTAnd, fTOr, fTNot, fAnd, fOr, fNot, fIfE, fTup, fL, fLst, fANil, fACons, fAStar, fCB, fCN, fCall, fCallI, fIsN, fNotN, fNeg, fSl, fO0, fO1, fRevL, fRange1, fRange2, fSeq, fEnum, fZip, fLstRg, fR1, fR2, fIdx, fCnt, fCatN, fRepN, fFor, fComp, sAdd, sSub, sMul, sI2, sB2, sEq, sNe, sEqS, sNeS, sIn, sNotIn, sIx, sLt, sLe, sGt, sGe, sFdiv, sMod, sPow, sLen, sAbs, sInt, sMax2, sMin2, sList, sTuple, sSum, sAll, sAny, sSorted, sRepr, sAddI, gVar, gVarT, gTupD, gsCons, gsNil, kdOf, itemsD, wipeE, fYes, List.map_cons, List.map_nil, List.cons_append, List.nil_append, List.replicate, List.length_cons, List.length_nil, List.set_cons_zero, List.set_cons_succ, List.getElem?_cons_zero, List.getElem?_cons_succ, eqv_int, true_and, intsOf_nums, maj_eq]
    refine ⟨fit_int _, fit_int _, ?_⟩
    rw [i3]
    simp only [eq_self, decide_true, Bool.not_true, Bool.not_false, eqv_int]
    refine ⟨n, ifi p.1, rfl, i1, by omega, rfl, p.1, _, rfl, .inl rfl, by omega, fit_int _, fit_int _, ?_⟩
    rw [i3]
    simp only [eq_self, decide_true, Bool.not_true, Bool.not_false, eqv_int]
    exact hk _ ⟨fun q hq => hp q (List.mem_cons_of_mem _ hq), _, _, _, _, _, _, _, _, _, rfl⟩
  rotate_left
  · obtain ⟨h1, h2⟩ := List.of_mem_zip hp
    have : ∀ (l : List (List Int)) (p : List Int × List Int), p ∈ l.zip (l.map ifi) → p.2 = ifi p.1 := fun l => by
      induction l with
      | nil => intro p hp; simp at hp
      | cons r t ih =>
        intro p hp
        rw [List.map_cons, List.zip_cons_cons] at hp
        rcases List.mem_cons.mp hp with e | hp
        · subst e; rfl
        · exact ih p hp
    exact ⟨lrows_Row h1, this _ p hp⟩
  rintro env ⟨_, a3, a4, a5, a6, a7, a8, a9, a10, a11, rfl⟩
  simp only [hK]
  clear rises invb cinv ib jb fi s1 fe eqf el rl cm ci
  -- n again
  refine gseq_go fun K hK => ?_
  simp only [gRet, gRetN, gIf, gSeq, gNil, gSet, gSetN, gSetT, gAug, gAugIx, gAppend, gExtend, gInsert, gSetIx, gPar, fpE, fpN, fpT, fpNil, gAsg, gExpr, fVar, fVarT, fC, fOp, fTest, fTAnd, fTOr, fTNot, fAnd, fOr, fNot, fIfE, fTup, fL, fLst, fANil, fACons, fAStar, fCB, fCN, fCall, fCallI, fIsN, fNotN, fNeg, fSl, fO0, fO1, fRevL, fRange1, fRange2, fSeq, fEnum, fZip, fLstRg, fR1, fR2, fIdx, fCnt, fCatN, fRepN, fFor, fComp, sAdd, sSub, sMul, sI2, sB2, sEq, sNe, sEqS, sNeS, sIn, sNotIn, sIx, sLt, sLe, sGt, sGe, sFdiv, sMod, sPow, sLen, sAbs, sInt, sMax2, sMin2, sList, sTuple, sSum, sAll, sAny, sSorted, sRepr, sAddI, gVar, gVarT, gTupD, gsCons, gsNil, kdOf, itemsD, wipeE, fYes, List.map_cons, List.map_nil, List.cons_append, List.nil_append, List.replicate, List.length_cons, List.length_nil, List.set_cons_zero, List.set_cons_succ, List.getElem?_cons_zero, List.getElem?_cons_succ, eqv_int, true_and]
  refine ⟨12, rfl, by decide, fun r0 _ hr0 => ?_⟩
  have hb := hr0 (by decide)
  obtain ⟨N, hN, h1n, h2n⟩ : ∃ n : Nat, 1 + r0 = (n : Int) ∧ 1 ≤ n ∧ n ≤ 12 := ⟨(1 + r0).toNat, by omega, by omega, by omega⟩
  simp only [hN, hK]
  clear hn em mb n1 n2
  refine gseq_go fun K hK => ?_
  simp only [gRet, gRetN, gIf, gSeq, gNil, gSet, gSetN, gSetT, gAug, gAugIx, gAppend, gExtend, gInsert, gSetIx, gPar, fpE, fpN, fpT, fpNil, gAsg, gExpr, fVar, fVarT, fC, fOp, fTest, fTAnd, fTOr, fTNot, fAnd, fOr, fNot, fIfE, fTup, fL, fLst, fANil, fACons, fAStar, fCB, fCN, fCall, fCallI, fIsN, fNotN, fNeg, fSl, fO0, fO1, fRevL, fRange1, fRange2, fSeq, fEnum, fZip, fLstRg, fR1, fR2, fIdx, fCnt, fCatN, fRepN, fFor, fComp, sAdd, sSub, sMul, sI2, sB2, sEq, sNe, sEqS, sNeS, sIn, sNotIn, sIx, sLt, sLe, sGt, sGe, sFdiv, sMod, sPow, sLen, sAbs, sInt, sMax2, sMin2, sList, sTuple, sSum, sAll, sAny, sSorted, sRepr, sAddI, gVar, gVarT, gTupD, gsCons, gsNil, kdOf, itemsD, wipeE, fYes, List.map_cons, List.map_nil, List.cons_append, List.nil_append, List.replicate, List.length_cons, List.length_nil, List.set_cons_zero, List.set_cons_succ, List.getElem?_cons_zero, List.getElem?_cons_succ, eqv_int, true_and]
  refine ⟨by decide, ?_⟩
  simp only [hK]
  -- the row by products
  refine gseq_go fun K hK => ?_
  simp only [gRet, gRetN, gIf, gSeq, gNil, gSet, gSetN, gSetT, gAug, gAugIx, gAppend, gExtend, gInsert, gSetIx, gPar, fpE, fpN, fpT, fpNil, gAsg, gExpr, fVar, fVarT, fC, fOp, fTest, fTAnd, fTOr, fTNot, fAnd, fOr, fNot, fIfE, fTup, fL, fLst, fANil, fACons, fAStar, fCB, fCN, fCall, fCallI, fIsN, fNotN, fNeg, fSl, fO0, fO1, fRevL, fRange1, fRange2, fSeq, fEnum, fZip, fLstRg, fR1, fR2, fIdx, fCnt, fCatN, fRepN, fFor, fComp, sAdd, sSub, sMul, sI2, sB2, sEq, sNe, sEqS, sNeS, sIn, sNotIn, sIx, sLt, sLe, sGt, sGe, sFdiv, sMod, sPow, sLen, sAbs, sInt, sMax2, sMin2, sList, sTuple, sSum, sAll, sAny, sSorted, sRepr, sAddI, gVar, gVarT, gTupD, gsCons, gsNil, kdOf, itemsD, wipeE, fYes, List.map_cons, List.map_nil, List.cons_append, List.nil_append, List.replicate, List.length_cons, List.length_nil, List.set_cons_zero, List.set_cons_succ, List.getElem?_cons_zero, List.getElem?_cons_succ, eqv_int, true_and]
  refine ⟨⟨⟨by decide, by decide⟩, by omega, by omega⟩, ?_⟩
  have e0 : ((N : Int) - 1).toNat = N - 1 := by omega
  rw [e0, range_enc]
  refine loop_go _ (fun rest env => ∃ j a8 a11 a13 a14 a15, (List.range (N - 1)).drop j = rest ∧ j ≤ N - 1 ∧ env = [none, some srcD, some (.int (N : Int)), a3, a4, a5, a6, a7, a8, a9, a10, a11, some (.list (nums (irow j))), a13, a14, a15]) ?_ ?_ _ _ ⟨0, _, _, _, _, _, rfl, Nat.zero_le _, rfl⟩
  · rintro a r env ⟨j, a8, a11, a13, a14, a15, h1, h2, rfl⟩ k' hk
    obtain ⟨rfl, hj, hr2⟩ := drop_range h1
    have il := irow_small a (by omega)
    simp only [gVar, List.set_cons_zero, List.set_cons_succ]
    refine gseq_go fun K2 hK2 => ?_
    simp only [gRet, gRetN, gIf, gSeq, gNil, gSet, gSetN, gSetT, gAug, gAugIx, gAppend, gExtend, gInsert, gSetIx, gPar, fpE, fpN, fpT, fpNil, gAsg, gExpr, fVar, fVarT, fC, fOp, fTest, fTAnd, fTOr, fTNot, fAnd, fOr, fNot, fIfE, fTup, fL, fLst, fANil, fACons, fAStar, fCB, fCN, fCall, fCallI, fIsN, fNotN, fNeg, fSl, fO0, fO1, fRevL, fRange1, fRange2, fSeq, fEnum, fZip, fLstRg, fR1, fR2, fIdx, fCnt, fCatN, fRepN, fFor, fComp, sAdd, sSub, sMul, sI2, sB2, sEq, sNe, sEqS, sNeS, sIn, sNotIn, sIx, sLt, sLe, sGt, sGe, sFdiv, sMod, sPow, sLen, sAbs, sInt, sMax2, sMin2, sList, sTuple, sSum, sAll, sAny, sSorted, sRepr, sAddI, gVar, gVarT, gTupD, gsCons, gsNil, kdOf, itemsD, wipeE, fYes, List.map_cons, List.map_nil, List.cons_append, List.nil_append, List.replicate, List.length_cons, List.length_nil, List.set_cons_zero, List.set_cons_succ, List.getElem?_cons_zero, List.getElem?_cons_succ, eqv_int, true_and]
    rw [nums_len]
    refine ⟨by decide, ⟨by omega, by omega, by omega⟩, ?_⟩
    have e1 : (((irow a).length : Int) + (1 + (a : Int))).toNat = (irow a).length + (a + 1) := by omega
    rw [e1, nums_rep]
    simp only [hK2]
    refine gseq_go fun K2 hK2 => ?_
    simp only [gRet, gRetN, gIf, gSeq, gNil, gSet, gSetN, gSetT, gAug, gAugIx, gAppend, gExtend, gInsert, gSetIx, gPar, fpE, fpN, fpT, fpNil, gAsg, gExpr, fVar, fVarT, fC, fOp, fTest, fTAnd, fTOr, fTNot, fAnd, fOr, fNot, fIfE, fTup, fL, fLst, fANil, fACons, fAStar, fCB, fCN, fCall, fCallI, fIsN, fNotN, fNeg, fSl, fO0, fO1, fRevL, fRange1, fRange2, fSeq, fEnum, fZip, fLstRg, fR1, fR2, fIdx, fCnt, fCatN, fRepN, fFor, fComp, sAdd, sSub, sMul, sI2, sB2, sEq, sNe, sEqS, sNeS, sIn, sNotIn, sIx, sLt, sLe, sGt, sGe, sFdiv, sMod, sPow, sLen, sAbs, sInt, sMax2, sMin2, sList, sTuple, sSum, sAll, sAny, sSorted, sRepr, sAddI, gVar, gVarT, gTupD, gsCons, gsNil, kdOf, itemsD, wipeE, fYes, List.map_cons, List.map_nil, List.cons_append, List.nil_append, List.replicate, List.length_cons, List.length_nil, List.set_cons_zero, List.set_cons_succ, List.getElem?_cons_zero, List.getElem?_cons_succ, eqv_int, true_and]
    have en : enumD (nums (irow a)) = (irow a).zipIdx.map fun p => PyData.tuple [.int (p.2 : Nat), .int p.1] := enum_enc PyData.int (irow a)
    rw [en]
    refine loop_go _ (fun rest env => ∃ j a13 a14 a15 late, (irow a).zipIdx.drop j = rest ∧ late.length = (irow a).length + (a + 1) ∧ addAll (a + 1) j ((irow a).drop j) late = irow (a + 1) ∧ env = [none, some srcD, some (.int (N : Int)), a3, a4, a5, a6, a7, some (.int (1 + (a : Int))), a9, a10, some (.list (nums late)), some (.list (nums (irow a))), a13, a14, a15]) ?_ ?_ _ _ ⟨0, a13, a14, a15, List.replicate ((irow a).length + (a + 1)) 0, rfl, by rw [List.length_replicate], rfl, rfl⟩
    · rintro p r3 env ⟨j, a13, a14, a15, late, h1, hl, h3, rfl⟩ k2 hk2
      obtain ⟨hjl, rfl, hr3⟩ := drop_zip h1
      rw [List.drop_eq_getElem_cons hjl] at h3
      simp only [gRet, gRetN, gIf, gSeq, gNil, gSet, gSetN, gSetT, gAug, gAugIx, gAppend, gExtend, gInsert, gSetIx, gPar, fpE, fpN, fpT, fpNil, gAsg, gExpr, fVar, fVarT, fC, fOp, fTest, fTAnd, fTOr, fTNot, fAnd, fOr, fNot, fIfE, fTup, fL, fLst, fANil, fACons, fAStar, fCB, fCN, fCall, fCallI, fIsN, fNotN, fNeg, fSl, fO0, fO1, fRevL, fRange1, fRange2, fSeq, fEnum, fZip, fLstRg, fR1, fR2, fIdx, fCnt, fCatN, fRepN, fFor, fComp, sAdd, sSub, sMul, sI2, sB2, sEq, sNe, sEqS, sNeS, sIn, sNotIn, sIx, sLt, sLe, sGt, sGe, sFdiv, sMod, sPow, sLen, sAbs, sInt, sMax2, sMin2, sList, sTuple, sSum, sAll, sAny, sSorted, sRepr, sAddI, gVar, gVarT, gTupD, gsCons, gsNil, kdOf, itemsD, wipeE, fYes, List.map_cons, List.map_nil, List.cons_append, List.nil_append, List.replicate, List.length_cons, List.length_nil, List.set_cons_zero, List.set_cons_succ, List.getElem?_cons_zero, List.getElem?_cons_succ, eqv_int, true_and]
      refine ⟨⟨by omega, by omega⟩, ?_⟩
      have e2 : (1 + (a : Int) + 1).toNat = a + 2 := by omega
      rw [e2, range_enc]
      refine loop_go _ (fun rest env => ∃ m a15, (List.range (a + 2)).drop m = rest ∧ m ≤ a + 2 ∧ env = [none, some srcD, some (.int (N : Int)), a3, a4, a5, a6, a7, some (.int (1 + (a : Int))), a9, a10, some (.list (nums (addAt (irow a)[j] j m late))), some (.list (nums (irow a))), some (.int (j : Nat)), some (.int (irow a)[j]), a15]) ?_ ?_ _ _ ⟨0, a15, rfl, Nat.zero_le _, rfl⟩
      · rintro m r4 env ⟨m', a15, h1, h2, rfl⟩ k3 hk3
        obtain ⟨rfl, hm2, hr4⟩ := drop_range h1
        have al := addAt_len (irow a)[j] j late m
        have hlt : j + m < (addAt (irow a)[j] j m late).length := by omega
        have hix : ixN (nums (addAt (irow a)[j] j m late)).length ((j : Int) + (0 + (m : Int))) = some (j + m) := by
          rw [show ((j : Int) + (0 + (m : Int))) = ((j + m : Nat) : Int) by omega]
          exact ixN_nat (by rw [nums_len]; exact hlt)
        simp only [gRet, gRetN, gIf, gSeq, gNil, gSet, gSetN, gSetT, gAug, gAugIx, gAppend, gExtend, gInsert, gSetIx, gPar, fpE, fpN, fpT, fpNil, gAsg, gExpr, fVar, fVarT, fC, fOp, fTest, fTAnd, fTOr, fTNot, fAnd, fOr, fNot, fIfE, fTup, fL, fLst, fANil, fACons, fAStar, fCB, fCN, fCall, fCallI, fIsN, fNotN, fNeg, fSl, fO0, fO1, fRevL, fRange1, fRange2, fSeq, fEnum, fZip, fLstRg, fR1, fR2, fIdx, fCnt, fCatN, fRepN, fFor, fComp, sAdd, sSub, sMul, sI2, sB2, sEq, sNe, sEqS, sNeS, sIn, sNotIn, sIx, sLt, sLe, sGt, sGe, sFdiv, sMod, sPow, sLen, sAbs, sInt, sMax2, sMin2, sList, sTuple, sSum, sAll, sAny, sSorted, sRepr, sAddI, gVar, gVarT, gTupD, gsCons, gsNil, kdOf, itemsD, wipeE, fYes, List.map_cons, List.map_nil, List.cons_append, List.nil_append, List.replicate, List.length_cons, List.length_nil, List.set_cons_zero, List.set_cons_succ, List.getElem?_cons_zero, List.getElem?_cons_succ, eqv_int, true_and]
        rw [at1 hlt (j := (j : Int) + (0 + (m : Int))) (by omega)]
        simp only [gRet, gRetN, gIf, gSeq, gNil, gSet, gSetN, gSetT, gAug, gAugIx, gAppend, gExtend, gInsert, gSetIx, gPar, fpE, fpN, fpT, fpNil, gAsg, gExpr, fVar, fVarT, fC, fOp, fTest, fTAnd, fTOr, fTNot, fAnd, fOr, fNot, fIfE, fTup, fL, fLst, fANil, fACons, fAStar, fCB, fCN, fCall, fCallI, fIsN, fNotN, fNeg, fSl, fO0, fO1, fRevL, fRange1, fRange2, fSeq, fEnum, fZip, fLstRg, fR1, fR2, fIdx, fCnt, fCatN, fRepN, fFor, fComp, sAdd, sSub, sMul, sI2, sB2, sEq, sNe, sEqS, sNeS, sIn, sNotIn, sIx, sLt, sLe, sGt, sGe, sFdiv, sMod, sPow, sLen, sAbs, sInt, sMax2, sMin2, sList, sTuple, sSum, sAll, sAny, sSorted, sRepr, sAddI, gVar, gVarT, gTupD, gsCons, gsNil, kdOf, itemsD, wipeE, fYes, List.map_cons, List.map_nil, List.cons_append, List.nil_append, List.replicate, List.length_cons, List.length_nil, List.set_cons_zero, List.set_cons_succ, List.getElem?_cons_zero, List.getElem?_cons_succ, eqv_int, true_and]
        rw [hix]
        simp only [gRet, gRetN, gIf, gSeq, gNil, gSet, gSetN, gSetT, gAug, gAugIx, gAppend, gExtend, gInsert, gSetIx, gPar, fpE, fpN, fpT, fpNil, gAsg, gExpr, fVar, fVarT, fC, fOp, fTest, fTAnd, fTOr, fTNot, fAnd, fOr, fNot, fIfE, fTup, fL, fLst, fANil, fACons, fAStar, fCB, fCN, fCall, fCallI, fIsN, fNotN, fNeg, fSl, fO0, fO1, fRevL, fRange1, fRange2, fSeq, fEnum, fZip, fLstRg, fR1, fR2, fIdx, fCnt, fCatN, fRepN, fFor, fComp, sAdd, sSub, sMul, sI2, sB2, sEq, sNe, sEqS, sNeS, sIn, sNotIn, sIx, sLt, sLe, sGt, sGe, sFdiv, sMod, sPow, sLen, sAbs, sInt, sMax2, sMin2, sList, sTuple, sSum, sAll, sAny, sSorted, sRepr, sAddI, gVar, gVarT, gTupD, gsCons, gsNil, kdOf, itemsD, wipeE, fYes, List.map_cons, List.map_nil, List.cons_append, List.nil_append, List.replicate, List.length_cons, List.length_nil, List.set_cons_zero, List.set_cons_succ, List.getElem?_cons_zero, List.getElem?_cons_succ, eqv_int, true_and]
        refine hk3 _ ⟨m + 1, some (.int (0 + (m : Int))), hr4, by omega, ?_⟩
        rw [nums_set]
        rfl
      · rintro env ⟨m, a15, h1, h2, rfl⟩
        have hm2 := drop_range_nil h1
        have e : m = a + 2 := by omega
        subst e
        refine hk2 _ ⟨j + 1, _, _, _, addAt (irow a)[j] j (a + 2) late, hr3, by rw [addAt_len]; exact hl, h3, rfl⟩
    · rintro env ⟨j, a13, a14, a15, late, h1, hl, h3, rfl⟩
      have hj2 := drop_zip_nil h1
      rw [List.drop_of_length_le hj2] at h3
      have h4 : late = irow (a + 1) := h3
      subst h4
      simp only [hK2]
      simp only [gRet, gRetN, gIf, gSeq, gNil, gSet, gSetN, gSetT, gAug, gAugIx, gAppend, gExtend, gInsert, gSetIx, gPar, fpE, fpN, fpT, fpNil, gAsg, gExpr, fVar, fVarT, fC, fOp, fTest, fTAnd, fTOr, fTNot, fAnd, fOr, fNot, fIfE, fTup, fL, fLst, fANil, fACons, fAStar, fCB, fCN, fCall, fCallI, fIsN, fNotN, fNeg, fSl, fO0, fO1, fRevL, fRange1, fRange2, fSeq, fEnum, fZip, fLstRg, fR1, fR2, fIdx, fCnt, fCatN, fRepN, fFor, fComp, sAdd, sSub, sMul, sI2, sB2, sEq, sNe, sEqS, sNeS, sIn, sNotIn, sIx, sLt, sLe, sGt, sGe, sFdiv, sMod, sPow, sLen, sAbs, sInt, sMax2, sMin2, sList, sTuple, sSum, sAll, sAny, sSorted, sRepr, sAddI, gVar, gVarT, gTupD, gsCons, gsNil, kdOf, itemsD, wipeE, fYes, List.map_cons, List.map_nil, List.cons_append, List.nil_append, List.replicate, List.length_cons, List.length_nil, List.set_cons_zero, List.set_cons_succ, List.getElem?_cons_zero, List.getElem?_cons_succ, eqv_int, true_and]
      exact hk _ ⟨a + 1, _, _, _, _, _, hr2, by omega, rfl⟩
  rintro env ⟨j, a8, a11, a13, a14, a15, h1, h2, rfl⟩
  have hj := drop_range_nil h1
  have e : j = N - 1 := by omega
  subst e
  simp only [hK]
  -- what holds of it
  have fc := fin74c (N - 1) (by omega)
  have fi := fit_nums (irow (N - 1))
  have si := irow_says (N - 1) (by omega)
  refine gseq_go fun K hK => ?_
  simp only [gRet, gRetN, gIf, gSeq, gNil, gSet, gSetN, gSetT, gAug, gAugIx, gAppend, gExtend, gInsert, gSetIx, gPar, fpE, fpN, fpT, fpNil, gAsg, gExpr, fVar, fVarT, fC, fOp, fTest, fTAnd, fTOr, fTNot, fAnd, fOr, fNot, fIfE, fTup, fL, fLst, fANil, fACons, fAStar, fCB, fCN, fCall, fCallI, fIsN, fNotN, fNeg, fSl, fO0, fO1, fRevL, fRange1, fRange2, fSeq, fEnum, fZip, fLstRg, fR1, fR2, fIdx, fCnt, fCatN, fRepN, fFor, fComp, sAdd, sSub, sMul, sI2, sB2, sEq, sNe, sEqS, sNeS, sIn, sNotIn, sIx, sLt, sLe, sGt, sGe, sFdiv, sMod, sPow, sLen, sAbs, sInt, sMax2, sMin2, sList, sTuple, sSum, sAll, sAny, sSorted, sRepr, sAddI, gVar, gVarT, gTupD, gsCons, gsNil, kdOf, itemsD, wipeE, fYes, List.map_cons, List.map_nil, List.cons_append, List.nil_append, List.replicate, List.length_cons, List.length_nil, List.set_cons_zero, List.set_cons_succ, List.getElem?_cons_zero, List.getElem?_cons_succ, eqv_int, true_and]
  refine ⟨N, rfl, h1n, h2n, si, si, ?_⟩
  simp only [eq_self, decide_true, Bool.not_true, Bool.not_false, gRet, gRetN, gIf, gSeq, gNil, gSet, gSetN, gSetT, gAug, gAugIx, gAppend, gExtend, gInsert, gSetIx, gPar, fpE, fpN, fpT, fpNil, gAsg, gExpr, fVar, fVarT, fC, fOp, fTest, fTAnd, fTOr, fTNot, fAnd, fOr, fNot, fIfE, fTup, fL, fLst, fANil, fACons, fAStar, fCB, fCN, fCall, fCallI, fIsN, fNotN, fNeg, fSl, fO0, fO1, fRevL, fRange1, fRange2, fSeq, fEnum, fZip, fLstRg, fR1, fR2, fIdx, fCnt, fCatN, fRepN, fFor, fComp, sAdd, sSub, sMul, sI2, sB2, sEq, sNe, sEqS, sNeS, sIn, sNotIn, sIx, sLt, sLe, sGt, sGe, sFdiv, sMod, sPow, sLen, sAbs, sInt, sMax2, sMin2, sList, sTuple, sSum, sAll, sAny, sSorted, sRepr, sAddI, gVar, gVarT, gTupD, gsCons, gsNil, kdOf, itemsD, wipeE, fYes, List.map_cons, List.map_nil, List.cons_append, List.nil_append, List.replicate, List.length_cons, List.length_nil, List.set_cons_zero, List.set_cons_succ, List.getElem?_cons_zero, List.getElem?_cons_succ, eqv_int, true_and, intsOf_nums]
  refine ⟨N, rfl, h1n, h2n, fit_int _, fit_int _, ?_⟩
  rw [fc.1, eqv_self (fit_int _)]
  simp only [eq_self, decide_true, Bool.not_true, Bool.not_false]
  have rv : (nums (irow (N - 1))).reverse = nums (irow (N - 1)) := by
    unfold nums
    rw [← List.map_reverse, fc.2.1]
  rw [rv]
  refine ⟨fi.2, fi.2, ?_⟩
  rw [eqv_self fi.2]
  simp only [eq_self, decide_true, Bool.not_true, Bool.not_false, hK]
  -- a row
  refine gseq_go fun K hK => ?_
  simp only [gRet, gRetN, gIf, gSeq, gNil, gSet, gSetN, gSetT, gAug, gAugIx, gAppend, gExtend, gInsert, gSetIx, gPar, fpE, fpN, fpT, fpNil, gAsg, gExpr, fVar, fVarT, fC, fOp, fTest, fTAnd, fTOr, fTNot, fAnd, fOr, fNot, fIfE, fTup, fL, fLst, fANil, fACons, fAStar, fCB, fCN, fCall, fCallI, fIsN, fNotN, fNeg, fSl, fO0, fO1, fRevL, fRange1, fRange2, fSeq, fEnum, fZip, fLstRg, fR1, fR2, fIdx, fCnt, fCatN, fRepN, fFor, fComp, sAdd, sSub, sMul, sI2, sB2, sEq, sNe, sEqS, sNeS, sIn, sNotIn, sIx, sLt, sLe, sGt, sGe, sFdiv, sMod, sPow, sLen, sAbs, sInt, sMax2, sMin2, sList, sTuple, sSum, sAll, sAny, sSorted, sRepr, sAddI, gVar, gVarT, gTupD, gsCons, gsNil, kdOf, itemsD, wipeE, fYes, List.map_cons, List.map_nil, List.cons_append, List.nil_append, List.replicate, List.length_cons, List.length_nil, List.set_cons_zero, List.set_cons_succ, List.getElem?_cons_zero, List.getElem?_cons_succ, eqv_int, true_and]
  refine ⟨RgOk.of_le (by omega) (by omega) (by omega) (by omega), _, rfl, by rw [range_enc, List.length_map, List.length_range]; omega, fun ys hp => ?_⟩
  have e5 : ((N : Int) - 0).toNat = N := by omega
  rw [e5, rangeD_nums] at hp
  obtain ⟨row, rfl, hr⟩ := perm_nums hp
  have row_ : Row N row := hr
  have rlen := row_.len
  simp only [gRet, gRetN, gIf, gSeq, gNil, gSet, gSetN, gSetT, gAug, gAugIx, gAppend, gExtend, gInsert, gSetIx, gPar, fpE, fpN, fpT, fpNil, gAsg, gExpr, fVar, fVarT, fC, fOp, fTest, fTAnd, fTOr, fTNot, fAnd, fOr, fNot, fIfE, fTup, fL, fLst, fANil, fACons, fAStar, fCB, fCN, fCall, fCallI, fIsN, fNotN, fNeg, fSl, fO0, fO1, fRevL, fRange1, fRange2, fSeq, fEnum, fZip, fLstRg, fR1, fR2, fIdx, fCnt, fCatN, fRepN, fFor, fComp, sAdd, sSub, sMul, sI2, sB2, sEq, sNe, sEqS, sNeS, sIn, sNotIn, sIx, sLt, sLe, sGt, sGe, sFdiv, sMod, sPow, sLen, sAbs, sInt, sMax2, sMin2, sList, sTuple, sSum, sAll, sAny, sSorted, sRepr, sAddI, gVar, gVarT, gTupD, gsCons, gsNil, kdOf, itemsD, wipeE, fYes, List.map_cons, List.map_nil, List.cons_append, List.nil_append, List.replicate, List.length_cons, List.length_nil, List.set_cons_zero, List.set_cons_succ, List.getElem?_cons_zero, List.getElem?_cons_succ, eqv_int, true_and]
  simp only [hK]
  obtain ⟨i1, i2, i3⟩ := ifi_row row_
  have il := i1.len
  refine gseq_go fun K hK => ?_
  simp only [gRet, gRetN, gIf, gSeq, gNil, gSet, gSetN, gSetT, gAug, gAugIx, gAppend, gExtend, gInsert, gSetIx, gPar, fpE, fpN, fpT, fpNil, gAsg, gExpr, fVar, fVarT, fC, fOp, fTest, fTAnd, fTOr, fTNot, fAnd, fOr, fNot, fIfE, fTup, fL, fLst, fANil, fACons, fAStar, fCB, fCN, fCall, fCallI, fIsN, fNotN, fNeg, fSl, fO0, fO1, fRevL, fRange1, fRange2, fSeq, fEnum, fZip, fLstRg, fR1, fR2, fIdx, fCnt, fCatN, fRepN, fFor, fComp, sAdd, sSub, sMul, sI2, sB2, sEq, sNe, sEqS, sNeS, sIn, sNotIn, sIx, sLt, sLe, sGt, sGe, sFdiv, sMod, sPow, sLen, sAbs, sInt, sMax2, sMin2, sList, sTuple, sSum, sAll, sAny, sSorted, sRepr, sAddI, gVar, gVarT, gTupD, gsCons, gsNil, kdOf, itemsD, wipeE, fYes, List.map_cons, List.map_nil, List.cons_append, List.nil_append, List.replicate, List.length_cons, List.length_nil, List.set_cons_zero, List.set_cons_succ, List.getElem?_cons_zero, List.getElem?_cons_succ, eqv_int, true_and]
  refine ⟨row, _, rfl, .inl rfl, by omega, ?_⟩
  simp only [gRet, gRetN, gIf, gSeq, gNil, gSet, gSetN, gSetT, gAug, gAugIx, gAppend, gExtend, gInsert, gSetIx, gPar, fpE, fpN, fpT, fpNil, gAsg, gExpr, fVar, fVarT, fC, fOp, fTest, fTAnd, fTOr, fTNot, fAnd, fOr, fNot, fIfE, fTup, fL, fLst, fANil, fACons, fAStar, fCB, fCN, fCall, fCallI, fIsN, fNotN, fNeg, fSl, fO0, fO1, fRevL, fRange1, fRange2, fSeq, fEnum, fZip, fLstRg, fR1, fR2, fIdx, fCnt, fCatN, fRepN, fFor, fComp, sAdd, sSub, sMul, sI2, sB2, sEq, sNe, sEqS, sNeS, sIn, sNotIn, sIx, sLt, sLe, sGt, sGe, sFdiv, sMod, sPow, sLen, sAbs, sInt, sMax2, sMin2, sList, sTuple, sSum, sAll, sAny, sSorted, sRepr, sAddI, gVar, gVarT, gTupD, gsCons, gsNil, kdOf, itemsD, wipeE, fYes, List.map_cons, List.map_nil, List.cons_append, List.nil_append, List.replicate, List.length_cons, List.length_nil, List.set_cons_zero, List.set_cons_succ, List.getElem?_cons_zero, List.getElem?_cons_succ, eqv_int, true_and, intsOf_nums, maj_eq]
  refine ⟨N, row, rfl, row_, by omega, ifi row, _, rfl, .inl rfl, by omega, fit_int _, fit_int _, ?_⟩
  rw [i3]
  simp only [eq_self, decide_true, Bool.not_true, Bool.not_false, eqv_int, hK]
  simp only [gRet, gRetN, gIf, gSeq, gNil, gSet, gSetN, gSetT, gAug, gAugIx, gAppend, gExtend, gInsert, gSetIx, gPar, fpE, fpN, fpT, fpNil, gAsg, gExpr, fVar, fVarT, fC, fOp, fTest, fTAnd, fTOr, fTNot, fAnd, fOr, fNot, fIfE, fTup, fL, fLst, fANil, fACons, fAStar, fCB, fCN, fCall, fCallI, fIsN, fNotN, fNeg, fSl, fO0, fO1, fRevL, fRange1, fRange2, fSeq, fEnum, fZip, fLstRg, fR1, fR2, fIdx, fCnt, fCatN, fRepN, fFor, fComp, sAdd, sSub, sMul, sI2, sB2, sEq, sNe, sEqS, sNeS, sIn, sNotIn, sIx, sLt, sLe, sGt, sGe, sFdiv, sMod, sPow, sLen, sAbs, sInt, sMax2, sMin2, sList, sTuple, sSum, sAll, sAny, sSorted, sRepr, sAddI, gVar, gVarT, gTupD, gsCons, gsNil, kdOf, itemsD, wipeE, fYes, List.map_cons, List.map_nil, List.cons_append, List.nil_append, List.replicate, List.length_cons, List.length_nil, List.set_cons_zero, List.set_cons_succ, List.getElem?_cons_zero, List.getElem?_cons_succ, eqv_int, true_and]
  have i4 : irow 2 = [1, 2, 2, 1] := by decide
  refine ⟨3, rfl, by decide, by decide, by decide, ?_⟩
  have i5 : irow (3 - 1) = [1, 2, 2, 1] := i4
  rw [i5]
  have f4 := (fit_nums [1, 2, 2, 1]).1
  refine ⟨f4, f4, ?_⟩
  exact congrArg PyData.bool (eqv_self f4)
end FL

namespace FL
open PySem PySem.Spec PyProof.Rows L2
section
variable {P : Program} {w : World} {K : PySem.W.Frag} {mg : Str → Option Value} {base : Heap}
theorem ok_law (M : Mgs K mg) {f : Addr} {fd : FuncData} (F : Fun K "law" "law" st_law f fd) : FnG P w K mg base 5 f fd ["script"] (spTrue K) := by
  have cOpen := ok_open0 (P := P) (w := w) (base := base) M.d__law_open_cells M.z_int M.z_abs
  refine fnG_of F scp_law (fun vs H Q E ⟨a, ns, e, _⟩ => by rw [e]; rfl) fun cdv A outer s0 H vs Q E hgd hr ⟨a, ns, e, hS, hl, q⟩ => ?_
  subst e
  have body : ∀ s c, FSs (sx s c) o_law (cxF P w K mg base n_law "law" st_law f cdv A outer s0 H E) (defBody st_law).tail g_law := by
    intro s c
    have c0 := ok_pick0 (P := P) (w := w) (base := base) M.d__law_pick M.z_len M.z_int s c
    have c__law_pick := pick_up c0
    have c__law_any_order := ok_any M.d__law_any_order s c c0 M.z_len M.z_list M.z_range
    have c_falls_of := ok_falls_of (P := P) (w := w) (base := base) (x := sx s c) M 
    have c_inversion_code := ok_inversion_code (P := P) (w := w) (base := base) (x := sx s c) M 
    have c_row_by_inversions := ok_row_by_inversions (P := P) (w := w) (base := base) (x := sx s c) M 
    have c_index_row := ok_index_row (P := P) (w := w) (base := base) (x := sx s c) M 
    have c__law_rows := ok__law_rows (P := P) (w := w) (base := base) (x := sx s c) M 
    have c__law_falls := ok__law_falls (P := P) (w := w) (base := base) (x := sx s c) M 
    have c__law_inversions := ok__law_inversions (P := P) (w := w) (base := base) (x := sx s c) M 
    have c__law_product := ok__law_product (P := P) (w := w) (base := base) (x := sx s c) M 
    have c_index_of := ok_index_of (P := P) (w := w) (base := base) (x := sx s c) M c_falls_of
    have c_inversions_of := ok_inversions_of (P := P) (w := w) (base := base) (x := sx s c) M c_inversion_code
    have c_index_code := ok_index_code (P := P) (w := w) (base := base) (x := sx s c) M c_index_of
    have c_index_for_inversions := ok_index_for_inversions (P := P) (w := w) (base := base) (x := sx s c) M c_index_code c_row_by_inversions
    exact d_law M s c c__law_any_order c__law_falls c__law_inversions c__law_pick c__law_product c__law_rows c_index_for_inversions c_index_of c_index_row c_inversions_of f cdv A outer s0 H E hgd hr
  refine ⟨_, pss_cons (ps_set (i := 1) scp_law.nd rfl (.inl rfl) (pe_cal cOpen (guards_deeper hgd _) hr (by decide) (by rfl) (pa_cons (pv 0) pa_nil))) (pss_src body), ?_⟩
  refine ⟨.ref a, rfl, a, ns, rfl, hS, hl, fun s c H2 h1 h2 si sm => ?_⟩
  exact law_start rfl si q h_law
end
theorem all_mk {l : PySem.W.OpenLaw} {w : World} {K : PySem.W.Frag} {h : Heap} {mg : Str → Option Value} {fa f0 f1 f2 f3 f4 f5 f6 f7 f8 f9 f10 f11 f12 f13 f14 f15 : Addr} (X : K.In h) (G : h.Ns mainGlobals mg) (hfa : mg "law" = some (.ref fa))
    {od0 an0 od1 an1 od2 an2 od3 an3 od4 an4 od5 an5 od6 an6 od7 an7 od8 an8 od9 an9 od10 an10 od11 an11 od12 an12 od13 an13 od14 an14 od15 an15 : Option Addr} {sl0 sl1 sl2 sl3 sl4 sl5 sl6 sl7 sl8 sl9 sl10 sl11 sl12 sl13 sl14 sl15 : Array (Option Value)} {oc0 kV0 dc0 pm0 cd0 ct0 oc1 kV1 dc1 pm1 cd1 ct1 oc2 kV2 dc2 pm2 cd2 ct2 oc3 kV3 dc3 pm3 cd3 ct3 oc4 kV4 dc4 pm4 cd4 ct4 oc5 kV5 dc5 pm5 cd5 ct5 oc6 kV6 dc6 pm6 cd6 ct6 oc7 kV7 dc7 pm7 cd7 ct7 oc8 kV8 dc8 pm8 cd8 ct8 oc9 kV9 dc9 pm9 cd9 ct9 oc10 kV10 dc10 pm10 cd10 ct10 oc11 kV11 dc11 pm11 cd11 ct11 oc12 kV12 dc12 pm12 cd12 ct12 oc13 kV13 dc13 pm13 cd13 ct13 oc14 kV14 dc14 pm14 cd14 ct14 oc15 kV15 dc15 pm15 cd15 ct15 : Value}
    (a0 : PySem.W.nsIn K mainGlobals "falls_of" = some (some (.ref f0))) (l0 : K.lookup f0 = some ⟨oc0, od0, .func (PySem.W.fnOf "falls_of" "falls_of" (defArgs st_falls_of) (defBody st_falls_of) (defScope st_falls_of) .none kV0 dc0 pm0 an0 cd0 ct0), sl0⟩) (c0 : PySem.W.codeIn K cd0 "falls_of" = true) (k0 : PySem.W.keepIn K (.ref f0) = true)
    (a1 : PySem.W.nsIn K mainGlobals "index_of" = some (some (.ref f1))) (l1 : K.lookup f1 = some ⟨oc1, od1, .func (PySem.W.fnOf "index_of" "index_of" (defArgs st_index_of) (defBody st_index_of) (defScope st_index_of) .none kV1 dc1 pm1 an1 cd1 ct1), sl1⟩) (c1 : PySem.W.codeIn K cd1 "index_of" = true) (k1 : PySem.W.keepIn K (.ref f1) = true)
    (a2 : PySem.W.nsIn K mainGlobals "inversion_code" = some (some (.ref f2))) (l2 : K.lookup f2 = some ⟨oc2, od2, .func (PySem.W.fnOf "inversion_code" "inversion_code" (defArgs st_inversion_code) (defBody st_inversion_code) (defScope st_inversion_code) .none kV2 dc2 pm2 an2 cd2 ct2), sl2⟩) (c2 : PySem.W.codeIn K cd2 "inversion_code" = true) (k2 : PySem.W.keepIn K (.ref f2) = true)
    (a3 : PySem.W.nsIn K mainGlobals "inversions_of" = some (some (.ref f3))) (l3 : K.lookup f3 = some ⟨oc3, od3, .func (PySem.W.fnOf "inversions_of" "inversions_of" (defArgs st_inversions_of) (defBody st_inversions_of) (defScope st_inversions_of) .none kV3 dc3 pm3 an3 cd3 ct3), sl3⟩) (c3 : PySem.W.codeIn K cd3 "inversions_of" = true) (k3 : PySem.W.keepIn K (.ref f3) = true)
    (a4 : PySem.W.nsIn K mainGlobals "index_code" = some (some (.ref f4))) (l4 : K.lookup f4 = some ⟨oc4, od4, .func (PySem.W.fnOf "index_code" "index_code" (defArgs st_index_code) (defBody st_index_code) (defScope st_index_code) .none kV4 dc4 pm4 an4 cd4 ct4), sl4⟩) (c4 : PySem.W.codeIn K cd4 "index_code" = true) (k4 : PySem.W.keepIn K (.ref f4) = true)
    (a5 : PySem.W.nsIn K mainGlobals "row_by_inversions" = some (some (.ref f5))) (l5 : K.lookup f5 = some ⟨oc5, od5, .func (PySem.W.fnOf "row_by_inversions" "row_by_inversions" (defArgs st_row_by_inversions) (defBody st_row_by_inversions) (defScope st_row_by_inversions) .none kV5 dc5 pm5 an5 cd5 ct5), sl5⟩) (c5 : PySem.W.codeIn K cd5 "row_by_inversions" = true) (k5 : PySem.W.keepIn K (.ref f5) = true)
    (a6 : PySem.W.nsIn K mainGlobals "index_for_inversions" = some (some (.ref f6))) (l6 : K.lookup f6 = some ⟨oc6, od6, .func (PySem.W.fnOf "index_for_inversions" "index_for_inversions" (defArgs st_index_for_inversions) (defBody st_index_for_inversions) (defScope st_index_for_inversions) .none kV6 dc6 pm6 an6 cd6 ct6), sl6⟩) (c6 : PySem.W.codeIn K cd6 "index_for_inversions" = true) (k6 : PySem.W.keepIn K (.ref f6) = true)
    (a7 : PySem.W.nsIn K mainGlobals "index_row" = some (some (.ref f7))) (l7 : K.lookup f7 = some ⟨oc7, od7, .func (PySem.W.fnOf "index_row" "index_row" (defArgs st_index_row) (defBody st_index_row) (defScope st_index_row) .none kV7 dc7 pm7 an7 cd7 ct7), sl7⟩) (c7 : PySem.W.codeIn K cd7 "index_row" = true) (k7 : PySem.W.keepIn K (.ref f7) = true)
    (a8 : PySem.W.nsIn K mainGlobals "_law_open_cells" = some (some (.ref f8))) (l8 : K.lookup f8 = some ⟨oc8, od8, .func (PySem.W.fnOf "_law_open_cells" "_law_open_cells" (defArgs st__law_open_cells) (defBody st__law_open_cells) (defScope st__law_open_cells) .none kV8 dc8 pm8 an8 cd8 ct8), sl8⟩) (c8 : PySem.W.codeIn K cd8 "_law_open_cells" = true) (k8 : PySem.W.keepIn K (.ref f8) = true)
    (a9 : PySem.W.nsIn K mainGlobals "_law_pick" = some (some (.ref f9))) (l9 : K.lookup f9 = some ⟨oc9, od9, .func (PySem.W.fnOf "_law_pick" "_law_pick" (defArgs st__law_pick) (defBody st__law_pick) (defScope st__law_pick) .none kV9 dc9 pm9 an9 cd9 ct9), sl9⟩) (c9 : PySem.W.codeIn K cd9 "_law_pick" = true) (k9 : PySem.W.keepIn K (.ref f9) = true)
    (a10 : PySem.W.nsIn K mainGlobals "_law_any_order" = some (some (.ref f10))) (l10 : K.lookup f10 = some ⟨oc10, od10, .func (PySem.W.fnOf "_law_any_order" "_law_any_order" (defArgs st__law_any_order) (defBody st__law_any_order) (defScope st__law_any_order) .none kV10 dc10 pm10 an10 cd10 ct10), sl10⟩) (c10 : PySem.W.codeIn K cd10 "_law_any_order" = true) (k10 : PySem.W.keepIn K (.ref f10) = true)
    (a11 : PySem.W.nsIn K mainGlobals "_law_rows" = some (some (.ref f11))) (l11 : K.lookup f11 = some ⟨oc11, od11, .func (PySem.W.fnOf "_law_rows" "_law_rows" (defArgs st__law_rows) (defBody st__law_rows) (defScope st__law_rows) .none kV11 dc11 pm11 an11 cd11 ct11), sl11⟩) (c11 : PySem.W.codeIn K cd11 "_law_rows" = true) (k11 : PySem.W.keepIn K (.ref f11) = true)
    (a12 : PySem.W.nsIn K mainGlobals "_law_falls" = some (some (.ref f12))) (l12 : K.lookup f12 = some ⟨oc12, od12, .func (PySem.W.fnOf "_law_falls" "_law_falls" (defArgs st__law_falls) (defBody st__law_falls) (defScope st__law_falls) .none kV12 dc12 pm12 an12 cd12 ct12), sl12⟩) (c12 : PySem.W.codeIn K cd12 "_law_falls" = true) (k12 : PySem.W.keepIn K (.ref f12) = true)
    (a13 : PySem.W.nsIn K mainGlobals "_law_inversions" = some (some (.ref f13))) (l13 : K.lookup f13 = some ⟨oc13, od13, .func (PySem.W.fnOf "_law_inversions" "_law_inversions" (defArgs st__law_inversions) (defBody st__law_inversions) (defScope st__law_inversions) .none kV13 dc13 pm13 an13 cd13 ct13), sl13⟩) (c13 : PySem.W.codeIn K cd13 "_law_inversions" = true) (k13 : PySem.W.keepIn K (.ref f13) = true)
    (a14 : PySem.W.nsIn K mainGlobals "_law_product" = some (some (.ref f14))) (l14 : K.lookup f14 = some ⟨oc14, od14, .func (PySem.W.fnOf "_law_product" "_law_product" (defArgs st__law_product) (defBody st__law_product) (defScope st__law_product) .none kV14 dc14 pm14 an14 cd14 ct14), sl14⟩) (c14 : PySem.W.codeIn K cd14 "_law_product" = true) (k14 : PySem.W.keepIn K (.ref f14) = true)
    (a15 : PySem.W.nsIn K mainGlobals "law" = some (some (.ref f15))) (l15 : K.lookup f15 = some ⟨oc15, od15, .func (PySem.W.fnOf "law" "law" (defArgs st_law) (defBody st_law) (defScope st_law) .none kV15 dc15 pm15 an15 cd15 ct15), sl15⟩) (c15 : PySem.W.codeIn K cd15 "law" = true) (k15 : PySem.W.keepIn K (.ref f15) = true)
    (z0 : PySem.W.nsIn K mainGlobals "abs" = some none) (z1 : PySem.W.nsIn K mainGlobals "enumerate" = some none) (z2 : PySem.W.nsIn K mainGlobals "int" = some none) (z3 : PySem.W.nsIn K mainGlobals "len" = some none) (z4 : PySem.W.nsIn K mainGlobals "list" = some none) (z5 : PySem.W.nsIn K mainGlobals "range" = some none) (z6 : PySem.W.nsIn K mainGlobals "repr" = some none) (z7 : PySem.W.nsIn K mainGlobals "sorted" = some none) (z8 : PySem.W.nsIn K mainGlobals "sum" = some none) (z9 : PySem.W.nsIn K mainGlobals "tuple" = some none) (z10 : PySem.W.nsIn K mainGlobals "zip" = some none) :
    ∃ fd : FuncData, (∀ (s : Shared) (v : Value), BindsTo s fd ⟨[v], []⟩ [("script", v)]) ∧ ∀ base : Heap, K.In base → base.Ns mainGlobals mg → FnG l.prog w K mg base 5 fa fd ["script"] (spTrue K) := by
  have e := hfa.symm.trans (PySem.W.mg_of X G a15)
  cases e
  have M : Mgs K mg := ⟨dn_mk X G a0 l0 c0 k0 (fun _ _ _ _ _ _ us hl => match us, hl with | [_], _ => rfl),
    dn_mk X G a1 l1 c1 k1 (fun _ _ _ _ _ _ us hl => match us, hl with | [_], _ => rfl),
    dn_mk X G a2 l2 c2 k2 (fun _ _ _ _ _ _ us hl => match us, hl with | [_], _ => rfl),
    dn_mk X G a3 l3 c3 k3 (fun _ _ _ _ _ _ us hl => match us, hl with | [_], _ => rfl),
    dn_mk X G a4 l4 c4 k4 (fun _ _ _ _ _ _ us hl => match us, hl with | [_], _ => rfl),
    dn_mk X G a5 l5 c5 k5 (fun _ _ _ _ _ _ us hl => match us, hl with | [_], _ => rfl),
    dn_mk X G a6 l6 c6 k6 (fun _ _ _ _ _ _ us hl => match us, hl with | [_], _ => rfl),
    dn_mk X G a7 l7 c7 k7 (fun _ _ _ _ _ _ us hl => match us, hl with | [_], _ => rfl),
    dn_mk X G a8 l8 c8 k8 (fun _ _ _ _ _ _ us hl => match us, hl with | [_], _ => rfl),
    dn_mk X G a9 l9 c9 k9 (fun _ _ _ _ _ _ us hl => match us, hl with | [_, _], _ => rfl),
    dn_mk X G a10 l10 c10 k10 (fun _ _ _ _ _ _ us hl => match us, hl with | [_, _], _ => rfl),
    dn_mk X G a11 l11 c11 k11 (fun _ _ _ _ _ _ us hl => match us, hl with | [_], _ => rfl),
    dn_mk X G a12 l12 c12 k12 (fun _ _ _ _ _ _ us hl => match us, hl with | [_], _ => rfl),
    dn_mk X G a13 l13 c13 k13 (fun _ _ _ _ _ _ us hl => match us, hl with | [_], _ => rfl),
    dn_mk X G a14 l14 c14 k14 (fun _ _ _ _ _ _ us hl => match us, hl with | [_], _ => rfl),
    PySem.W.mg_none_of X G z0, PySem.W.mg_none_of X G z1, PySem.W.mg_none_of X G z2, PySem.W.mg_none_of X G z3, PySem.W.mg_none_of X G z4, PySem.W.mg_none_of X G z5, PySem.W.mg_none_of X G z6, PySem.W.mg_none_of X G z7, PySem.W.mg_none_of X G z8, PySem.W.mg_none_of X G z9, PySem.W.mg_none_of X G z10⟩
  exact ⟨_, fun s v => .of_eq rfl, fun base _ _ => ok_law M (fun_mk (st := st_law) l15 c15 k15)⟩
end FL
open PySem PySem.W PyProof.Rows
set_option maxHeartbeats 0 in
theorem PySem.Challenge.cw_numbersparted_k74_whole_index_as_inversi_holds : PySem.Challenge.rw_numbersparted_k74_whole_index_as_inversi.Holds := by
  w_on; o_law; k_head; (case hw => w_witness2)
  k_fill
  refine FL.walkG (l := PySem.Challenge.rw_numbersparted_k74_whole_index_as_inversi) (n := 63) (k := 5) (x := "script") (sp := fun w => FL.spTrue _) rfl (by decide) rfl ⟨rfl, by decide, by decide⟩ (fun w h Y => PySem.W.kIn_of Y) ?F (fun _ _ a ns hl hS => ⟨a, ns, rfl, hS, hl, fun _ => rfl⟩)
  case F =>
    intro w mg fa h KX G hmg
    refine' FL.all_mk KX G hmg ?a0 ?l0 ?c0 ?k0 ?a1 ?l1 ?c1 ?k1 ?a2 ?l2 ?c2 ?k2 ?a3 ?l3 ?c3 ?k3 ?a4 ?l4 ?c4 ?k4 ?a5 ?l5 ?c5 ?k5 ?a6 ?l6 ?c6 ?k6 ?a7 ?l7 ?c7 ?k7 ?a8 ?l8 ?c8 ?k8 ?a9 ?l9 ?c9 ?k9 ?a10 ?l10 ?c10 ?k10 ?a11 ?l11 ?c11 ?k11 ?a12 ?l12 ?c12 ?k12 ?a13 ?l13 ?c13 ?k13 ?a14 ?l14 ?c14 ?k14 ?a15 ?l15 ?c15 ?k15 ?z0 ?z1 ?z2 ?z3 ?z4 ?z5 ?z6 ?z7 ?z8 ?z9 ?z10
    (case a0 => k_is); (case l0 => k_is); (case c0 => k_is); (case k0 => k_is); (case a1 => k_is); (case l1 => k_is); (case c1 => k_is); (case k1 => k_is); (case a2 => k_is); (case l2 => k_is); (case c2 => k_is); (case k2 => k_is); (case a3 => k_is); (case l3 => k_is); (case c3 => k_is); (case k3 => k_is); (case a4 => k_is); (case l4 => k_is); (case c4 => k_is); (case k4 => k_is); (case a5 => k_is); (case l5 => k_is); (case c5 => k_is); (case k5 => k_is); (case a6 => k_is); (case l6 => k_is); (case c6 => k_is); (case k6 => k_is); (case a7 => k_is); (case l7 => k_is); (case c7 => k_is); (case k7 => k_is); (case a8 => k_is); (case l8 => k_is); (case c8 => k_is); (case k8 => k_is); (case a9 => k_is); (case l9 => k_is); (case c9 => k_is); (case k9 => k_is); (case a10 => k_is); (case l10 => k_is); (case c10 => k_is); (case k10 => k_is); (case a11 => k_is); (case l11 => k_is); (case c11 => k_is); (case k11 => k_is); (case a12 => k_is); (case l12 => k_is); (case c12 => k_is); (case k12 => k_is); (case a13 => k_is); (case l13 => k_is); (case c13 => k_is); (case k13 => k_is); (case a14 => k_is); (case l14 => k_is); (case c14 => k_is); (case k14 => k_is); (case a15 => k_is); (case l15 => k_is); (case c15 => k_is); (case k15 => k_is); (case z0 => k_is); (case z1 => k_is); (case z2 => k_is); (case z3 => k_is); (case z4 => k_is); (case z5 => k_is); (case z6 => k_is); (case z7 => k_is); (case z8 => k_is); (case z9 => k_is); (case z10 => k_is)
