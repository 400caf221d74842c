import PyProof.Rows.All
import Wide.All
import OpenK.AllK
import HandS.Lambda
import Wide.FinOn
import HandS.ForMost
import HandS.ForExc
import HandS.Wide
import HandS.TupAny
import HandS.TupLe
import HandS.Deep
import HandS.IsInst
import KE.DataCmp
import KE.SortData
import HandS.Text
import HandS.Style
import HandS.Zip
import HandS.WordsExc
import PyProof.TupleOfSeq
import HandS.EndTab
import KE.KNest
import KE.GoesEnum
import KE.KDictZip
import KE.GoesZip
import PyProof.ListNew
import HandS.IntHex
import HandS.Nested
import HandS.ExcInit
import HandS.ExcField
import HandS.TryOnly
import KE.KExcSuper
import HandS.ExcIs
import HandS.TryMany
import HandS.Call
import KE.KBits
import PySem.Challenge.RW_counterkeep_k38_octets_of_integers_and_c
import KE.RegKSuper
namespace Qd
open PySem
def lamNames : List Str := ["law"]
end Qd

set_option Elab.async false
set_option linter.all false
set_option maxRecDepth 100000
set_option maxHeartbeats 2000000
/-! QBase: values without addresses (D), what stands for them in the abstract heap, readings by plain functions over D. -/
namespace Qd
open PySem PySem.Spec L2

/-- a value of the program, without addresses -/
inductive D where
  | non | bl (b : Bool) | int (i : Int) | str (x : Str) | tup (ds : List D) | lst (ds : List D) | ref (n : Nat) | scr (ns : List Int)

/-- a thing that may be changed -/
inductive AO where
  | lst (ds : List D)
  | obj (c : Str) (fs : List (Str × D))

/-- an exception: its class's name, its members -/
structure Exn where
  cls : Str
  fs : List (Str × D)

inductive R (α : Type) where
  | ok (a : α) (h : List AO) | exc (x : Exn) (h : List AO) | stuck

/-! no reference within -/
mutual
def D.nr : D → Bool
  | .ref _ => false
  | .scr _ => false
  | .tup ds => D.nrs ds
  | .lst ds => D.nrs ds
  | _ => true
def D.nrs : List D → Bool
  | [] => true
  | d :: ds => D.nr d && D.nrs ds
end
/-! neither reference nor list within -/
mutual
def D.nl : D → Bool
  | .ref _ => false
  | .scr _ => false
  | .tup ds => D.nls ds
  | .lst _ => false
  | _ => true
def D.nls : List D → Bool
  | [] => true
  | d :: ds => D.nl d && D.nls ds
end

/-- the surroundings: the written part, the module's names -/
structure Sr where
  K : PySem.W.Frag
  mg : Str → Option Value

/-- a tuple, tracked or written; ι, Z: what may be changed, here or by others -/
def FzT (K : PySem.W.Frag) (Z ι : List Addr) (H : Hp) (a : Addr) (xs : List V) : Prop :=
  ((a ∉ ι ∧ a ∉ Z) ∧ Rd H a (.tup xs)) ∨
    ∃ (o : Obj) (its : Array Value) (n : Nat), K.lookup a = some o ∧ o.cls = .type "tuple" ∧ o.data = .seq its n ∧ its.size ≤ sizeLine ∧ Vals xs its.toList
theorem FzT.sq {K Z ι H a xs} (h : FzT K Z ι H a xs) : SqT K H a xs := by
  rcases h with ⟨_, h⟩ | h
  · exact .inl h
  · exact .inr h

/-- the script: locked, or written -/
def FzS (K : PySem.W.Frag) (Z ι : List Addr) (H : Hp) (a : Addr) (xs : List V) : Prop :=
  ((a ∉ ι ∧ a ∉ Z) ∧ Rd H a (.lst xs)) ∨
    ∃ (o : Obj) (its : Array Value) (n : Nat), K.lookup a = some o ∧ o.cls = .type "list" ∧ o.dict = none ∧ o.data = .seq its n ∧ its.size ≤ sizeLine ∧ Vals xs its.toList
theorem FzS.sq {K Z ι H a xs} (h : FzS K Z ι H a xs) : SqL K H a xs := by
  rcases h with ⟨_, h⟩ | h
  · exact .inl h
  · exact .inr h
mutual
inductive RV (K : PySem.W.Frag) (Z ι : List Addr) (H : Hp) : D → V → Prop
  | non : RV K Z ι H .non .non
  | bl (b : Bool) : RV K Z ι H (.bl b) (.bl b)
  | int (i : Int) : RV K Z ι H (.int i) (.int i)
  | str (x : Str) : PySem.PyData.strOk x = true → RV K Z ι H (.str x) (.str x)
  | ref {n : Nat} {a : Addr} : ι[n]? = some a → RV K Z ι H (.ref n) (.ref a)
  | scr {a : Addr} {ns : List Int} : FzS K Z ι H a (ns.map V.int) → ns.length ≤ sizeLine → RV K Z ι H (.scr ns) (.ref a)
  | lst {a : Addr} {xs : List V} {ds : List D} : a ∉ ι → a ∉ Z → H a = some (.lst xs) → xs.length ≤ sizeLine → RVs K Z ι H ds xs → RV K Z ι H (.lst ds) (.ref a)
  | tup {a : Addr} {xs : List V} {ds : List D} : FzT K Z ι H a xs → xs.length ≤ sizeLine → RVs K Z ι H ds xs → RV K Z ι H (.tup ds) (.ref a)
inductive RVs (K : PySem.W.Frag) (Z ι : List Addr) (H : Hp) : List D → List V → Prop
  | nil : RVs K Z ι H [] []
  | cons {d : D} {v : V} {ds : List D} {vs : List V} : RV K Z ι H d v → RVs K Z ι H ds vs → RVs K Z ι H (d :: ds) (v :: vs)
end

/-- from one abstract heap to a later one: what may not be changed here stands; what is new was not there -/
def isTb : HO → Bool
  | .tbl _ => true
  | _ => false
theorem isTb_true {o : HO} (h : isTb o = true) : ∃ ps, o = .tbl ps := by
  cases o <;> first | exact ⟨_, rfl⟩ | simp [isTb] at h
/-- not there, or a table -/
def Nw (H : Hp) (a : Addr) : Prop := H a = none ∨ ∃ ps, H a = some (.tbl ps)
theorem Nw.of {H : Hp} {a : Addr} (h : H a = none) : Nw H a := .inl h
theorem Nw.no {H : Hp} {a : Addr} {o : HO} (h : Nw H a) (e : H a = some o) (hb : isTb o = false) : False := by
  rcases h with h | ⟨ps, h⟩
  · rw [h] at e; cases e
  · rw [h] at e; cases e; cases hb
structure Ext (ι : List Addr) (H : Hp) (ι' : List Addr) (H' : Hp) : Prop where
  pre : ι <+: ι'
  keep : ∀ a o, H a = some o → isTb o = false → a ∉ ι → H' a = some o
  new : ∀ a, a ∈ ι' → a ∈ ι ∨ Nw H a
theorem Ext.refl {ι H} : Ext ι H ι H := ⟨List.prefix_refl _, fun _ _ h _ _ => h, fun _ h => .inl h⟩
theorem Ext.out {ι H ι' H'} (x : Ext ι H ι' H') {a : Addr} {o : HO} (h : H a = some o) (hb : isTb o = false) (hn : a ∉ ι) : a ∉ ι' := fun hm => by
  rcases x.new a hm with q | q
  · exact hn q
  · exact q.no h hb
theorem Ext.trans {ι H ι1 H1 ι2 H2} (x : Ext ι H ι1 H1) (y : Ext ι1 H1 ι2 H2) : Ext ι H ι2 H2 where
  pre := x.pre.trans y.pre
  keep := fun a o h hb hn => y.keep a o (x.keep a o h hb hn) hb (x.out h hb hn)
  new := fun a h => by
    rcases y.new a h with q | q
    · exact x.new a q
    · cases e : H a with
      | none => exact .inr (.inl e)
      | some o =>
        by_cases hm : a ∈ ι
        · exact .inl hm
        · cases hb : isTb o with
          | false => exact (q.no (x.keep a o e hb hm) hb).elim
          | true =>
            obtain ⟨ps, rfl⟩ := isTb_true hb
            exact .inr (.inr ⟨ps, e⟩)
theorem Ext.rd {ι H ι' H'} (x : Ext ι H ι' H') {a : Addr} {u : HO} (h : Rd H a u) (hn : a ∉ ι) (hb : isTb u = false) : Rd H' a u ∧ a ∉ ι' := by
  rcases h with h | ⟨o, h⟩
  · exact ⟨.inl (x.keep a _ h hb hn), x.out h hb hn⟩
  · exact ⟨.inr ⟨o, x.keep a _ h rfl hn⟩, x.out h rfl hn⟩
theorem Ext.out' {ι H ι' H'} (x : Ext ι H ι' H') {a : Addr} {u : HO} (h : Rd H a u) (hb : isTb u = false) (hn : a ∉ ι) : a ∉ ι' := by
  rcases h with h | ⟨o, h⟩
  · exact x.out h hb hn
  · exact x.out h rfl hn
theorem FzS.ext {K Z ι H ι' H' a xs} (h : FzS K Z ι H a xs) (x : Ext ι H ι' H') : FzS K Z ι' H' a xs := by
  rcases h with ⟨⟨n1, n2⟩, h⟩ | h
  · exact .inl ⟨⟨x.out' h rfl n1, n2⟩, (x.rd h n1 rfl).1⟩
  · exact .inr h
theorem FzT.ext {K Z ι H ι' H' a xs} (h : FzT K Z ι H a xs) (x : Ext ι H ι' H') : FzT K Z ι' H' a xs := by
  rcases h with ⟨⟨n1, n2⟩, h⟩ | h
  · exact .inl ⟨⟨(x.rd h n1 rfl).2, n2⟩, (x.rd h n1 rfl).1⟩
  · exact .inr h
mutual
theorem RV.ext {K Z ι H ι' H'} (x : Ext ι H ι' H') : ∀ {d : D} {v : V}, RV K Z ι H d v → RV K Z ι' H' d v
  | _, _, .non => .non
  | _, _, .bl b => .bl b
  | _, _, .int i => .int i
  | _, _, .str z h => .str z h
  | _, _, .scr h l => .scr (h.ext x) l
  | _, _, .ref h => .ref (by
      obtain ⟨t, e⟩ := x.pre
      rw [← e, List.getElem?_append_left (List.getElem?_eq_some_iff.mp h).1]
      exact h)
  | _, _, .lst n1 n2 h l r => .lst (x.out h rfl n1) n2 (x.keep _ _ h rfl n1) l (RVs.ext x r)
  | _, _, .tup h l r => .tup (h.ext x) l (RVs.ext x r)
theorem RVs.ext {K Z ι H ι' H'} (x : Ext ι H ι' H') : ∀ {ds : List D} {vs : List V}, RVs K Z ι H ds vs → RVs K Z ι' H' ds vs
  | _, _, .nil => .nil
  | _, _, .cons h t => .cons (RV.ext x h) (RVs.ext x t)
end
theorem RVs.length {K Z ι H} : ∀ {ds : List D} {vs : List V}, RVs K Z ι H ds vs → ds.length = vs.length
  | _, _, .nil => rfl
  | _, _, .cons _ t => by rw [List.length_cons, List.length_cons, RVs.length t]
theorem RVs.get {K Z ι H} : ∀ {ds : List D} {vs : List V} {i : Nat} {d : D}, RVs K Z ι H ds vs → ds[i]? = some d → ∃ v, vs[i]? = some v ∧ RV K Z ι H d v
  | _, _, _, _, .nil, h => by simp at h
  | _, _, 0, _, .cons h _, e => by simp at e; subst e; exact ⟨_, rfl, h⟩
  | _, _, i + 1, _, .cons _ t, e => by
    obtain ⟨v, h1, h2⟩ := RVs.get (i := i) t (by simpa using e)
    exact ⟨v, by simpa using h1, h2⟩
theorem RVs.get' {K Z ι H} : ∀ {ds : List D} {vs : List V} {i : Nat} {v : V}, RVs K Z ι H ds vs → vs[i]? = some v → ∃ d, ds[i]? = some d ∧ RV K Z ι H d v
  | _, _, _, _, .nil, h => by simp at h
  | _, _, 0, _, .cons h _, e => by simp at e; subst e; exact ⟨_, rfl, h⟩
  | _, _, i + 1, _, .cons _ t, e => by
    obtain ⟨v, h1, h2⟩ := RVs.get' (i := i) t (by simpa using e)
    exact ⟨v, by simpa using h1, h2⟩
theorem RVs.append {K Z ι H} : ∀ {ds es : List D} {vs ws : List V}, RVs K Z ι H ds vs → RVs K Z ι H es ws → RVs K Z ι H (ds ++ es) (vs ++ ws)
  | _, _, _, _, .nil, h => h
  | _, _, _, _, .cons h t, k => .cons h (RVs.append t k)
theorem RVs.take {K Z ι H} : ∀ {ds : List D} {vs : List V} (n : Nat), RVs K Z ι H ds vs → RVs K Z ι H (ds.take n) (vs.take n)
  | _, _, 0, _ => .nil
  | _, _, _ + 1, .nil => .nil
  | _, _, n + 1, .cons h t => .cons h (RVs.take n t)
theorem RVs.drop {K Z ι H} : ∀ {ds : List D} {vs : List V} (n : Nat), RVs K Z ι H ds vs → RVs K Z ι H (ds.drop n) (vs.drop n)
  | _, _, 0, h => h
  | _, _, _ + 1, .nil => .nil
  | _, _, n + 1, .cons _ t => RVs.drop n t
theorem RVs.one {K Z ι H} {d : D} {v : V} (h : RV K Z ι H d v) : RVs K Z ι H [d] [v] := .cons h .nil
theorem RVs.set {K Z ι H} {d : D} {v : V} (h : RV K Z ι H d v) : ∀ {ds : List D} {vs : List V} (n : Nat), RVs K Z ι H ds vs → RVs K Z ι H (ds.set n d) (vs.set n v)
  | _, _, _, .nil => .nil
  | _, _, 0, .cons _ t => .cons h t
  | _, _, n + 1, .cons k t => .cons k (RVs.set h n t)
theorem RVs.reverse {K Z ι H} : ∀ {ds : List D} {vs : List V}, RVs K Z ι H ds vs → RVs K Z ι H ds.reverse vs.reverse
  | _, _, .nil => .nil
  | _, _, .cons h t => by
    rw [List.reverse_cons, List.reverse_cons]
    exact (RVs.reverse t).append (.one h)
theorem RVs.eraseIdx {K Z ι H} : ∀ {ds : List D} {vs : List V} (n : Nat), RVs K Z ι H ds vs → RVs K Z ι H (ds.eraseIdx n) (vs.eraseIdx n)
  | _, _, _, .nil => .nil
  | _, _, 0, .cons _ t => t
  | _, _, n + 1, .cons k t => .cons k (RVs.eraseIdx n t)
theorem RVs.nil_iff {K Z ι H} {ds : List D} {vs : List V} (h : RVs K Z ι H ds vs) : vs = [] ↔ ds = [] := by
  have e := h.length
  constructor
  · intro q; subst q; exact List.eq_nil_of_length_eq_zero e
  · intro q; subst q; exact List.eq_nil_of_length_eq_zero e.symm
theorem RVs.ints {K Z ι H} : ∀ {ns : List Int} {vs : List V}, RVs K Z ι H (ns.map D.int) vs → vs = ns.map V.int
  | [], _, .nil => rfl
  | _ :: _, _, .cons (.int _) t => by rw [List.map_cons, RVs.ints t]

/-! ### what stands at the addresses -/
def RO (S : Sr) (Z ι : List Addr) (H : Hp) : AO → Addr → Prop
  | .lst ds, a => ∃ xs, H a = some (.lst xs) ∧ xs.length ≤ sizeLine ∧ RVs S.K Z ι H ds xs
  | .obj c fs, a => ∃ C dx vs, S.mg c = some (.ref C) ∧ H a = some (.ins C dx ((fs.map (·.1)).zip vs)) ∧ (fs.map (·.1)).Nodup ∧ RVs S.K Z ι H (fs.map (·.2)) vs
/-- no tuple, nothing locked, no table, nothing told by its object -/
def NT : HO → Prop
  | .tup _ => False
  | .frz _ _ => False
  | .tbl _ => False
  | .ext _ => False
  | _ => True
theorem NT.tb {o : HO} (h : NT o) : isTb o = false := by
  cases o <;> first | rfl | exact h.elim
/-- the tables of those that make lambdas -/
def tabsL (K : PySem.W.Frag) : List (Addr × Str) := lamNames.filterMap fun x => (PySem.W.tabIn K x).map fun p => (p.2, x ++ (".<locals>.<lambda>" : Str))
abbrev Tb (K : PySem.W.Frag) (H : Hp) : Prop := LamX.Tabs (tabsL K) H
theorem tabS_set {H : Hp} {P a : Addr} {q : Str} {o u : HO} (t : LamX.TabS H P q) (ha : H a = some u) (hu : NT u) : LamX.TabS (upd H a o) P q := by
  obtain ⟨ps, h1, h2, h3⟩ := t
  refine ⟨ps, ?_, h2, fun pos cv hc => ?_⟩
  · rw [upd_ne (fun e => by rw [e, ha] at h1; cases h1; exact hu)]; exact h1
  · obtain ⟨c, e1, e2⟩ := h3 pos cv hc
    refine ⟨c, e1, ?_⟩
    rw [upd_ne (fun e => by rw [e, ha] at e2; cases e2; exact hu)]; exact e2
theorem tb_new {T : List (Addr × Str)} {H : Hp} {p : Addr} {o : HO} (t : LamX.Tabs T H) (hp : H p = none) : LamX.Tabs T (upd H p o) := t.ext fun b u e => by rw [upd_ne (ne_of_none e hp)]; exact e
theorem tb_set {T : List (Addr × Str)} {H : Hp} {a : Addr} {o u : HO} (t : LamX.Tabs T H) (ha : H a = some u) (hu : NT u) : LamX.Tabs T (upd H a o) := fun x hx => tabS_set (t x hx) ha hu
structure RH (S : Sr) (Z ι : List Addr) (H : Hp) (ah : List AO) : Prop where
  nd : ι.Nodup
  len : ι.length = ah.length
  at_ : ∀ (n : Nat) a o, ι[n]? = some a → ah[n]? = some o → RO S Z ι H o a
  z : ∀ a, a ∈ Z → a ∉ ι ∧ ∃ o, H a = some o ∧ NT o
  tb : Tb S.K H
theorem RO.trN {S Z ι H o a} (h : RO S Z ι H o a) : ∃ u, H a = some u ∧ NT u := by
  cases o with
  | lst ds => obtain ⟨xs, h, _⟩ := h; exact ⟨_, h, trivial⟩
  | obj c fs => obtain ⟨C, dx, vs, _, h, _⟩ := h; exact ⟨_, h, trivial⟩
theorem RO.tr {S Z ι H o a} (h : RO S Z ι H o a) : ∃ u, H a = some u := let ⟨u, e, _⟩ := h.trN; ⟨u, e⟩
theorem RH.trN {S Z ι H ah} (h : RH S Z ι H ah) {a : Addr} (ha : a ∈ ι) : ∃ u, H a = some u ∧ NT u := by
  obtain ⟨n, hn, e⟩ := List.mem_iff_getElem.mp ha
  have hl : n < ah.length := by rw [← h.len]; exact hn
  exact (h.at_ n a ah[n] (by rw [List.getElem?_eq_getElem hn, e]) (List.getElem?_eq_getElem hl)).trN
theorem RH.tr {S Z ι H ah} (h : RH S Z ι H ah) {a : Addr} (ha : a ∈ ι) : ∃ u, H a = some u := let ⟨u, e, _⟩ := h.trN ha; ⟨u, e⟩
theorem RH.freshN {S Z ι H ah} (h : RH S Z ι H ah) {p : Addr} (hp : Nw H p) : p ∉ ι ∧ p ∉ Z := by
  refine ⟨fun q => ?_, fun q => ?_⟩
  · obtain ⟨u, e, nt⟩ := h.trN q
    exact hp.no e nt.tb
  · obtain ⟨_, u, e, nt⟩ := h.z p q
    exact hp.no e nt.tb
theorem RH.fresh {S Z ι H ah} (h : RH S Z ι H ah) {p : Addr} (hp : H p = none) : p ∉ ι ∧ p ∉ Z := by
  refine ⟨fun q => ?_, fun q => ?_⟩
  · obtain ⟨u, e⟩ := h.tr q
    rw [hp] at e; cases e
  · obtain ⟨_, u, e, _⟩ := h.z p q
    rw [hp] at e; cases e
/-- the object's own place as it was, what it leans on later -/
theorem RO.ext {S Z ι H ι' H' o a} (h : RO S Z ι H o a) (x : Ext ι H ι' H') (e : H' a = H a) : RO S Z ι' H' o a := by
  cases o with
  | lst ds =>
    obtain ⟨xs, h, l, r⟩ := h
    exact ⟨xs, e.trans h, l, r.ext x⟩
  | obj c fs =>
    obtain ⟨C, dx, vs, g, h, nd, r⟩ := h
    exact ⟨C, dx, vs, g, e.trans h, nd, r.ext x⟩

/-- a new thing that nobody changes -/
theorem ext_new {ι : List Addr} {H : Hp} {p : Addr} {o : HO} (hp : H p = none) : Ext ι H ι (upd H p o) where
  pre := List.prefix_refl _
  keep := fun a u h _ _ => by rw [upd_ne (ne_of_none h hp)]; exact h
  new := fun _ h => .inl h
theorem RH.new {S Z ι H ah} (h : RH S Z ι H ah) {p : Addr} {o : HO} (hp : H p = none) : RH S Z ι (upd H p o) ah := by
  refine ⟨h.nd, h.len, fun n a u h1 h2 => ?_, fun a ha => ?_, tb_new h.tb hp⟩
  · have r := h.at_ n a u h1 h2
    obtain ⟨w, e⟩ := r.tr
    exact r.ext (ext_new hp) (by rw [upd_ne (ne_of_none e hp)])
  · obtain ⟨n, u, e, nt⟩ := h.z a ha
    exact ⟨n, u, by rw [upd_ne (ne_of_none e hp)]; exact e, nt⟩
/-- a new thing that may be changed -/
theorem ext_newM {ι : List Addr} {H : Hp} {p : Addr} {o : HO} (hp : H p = none) : Ext ι H (ι ++ [p]) (upd H p o) where
  pre := List.prefix_append _ _
  keep := fun a u h _ _ => by rw [upd_ne (ne_of_none h hp)]; exact h
  new := fun a h => by
    rcases List.mem_append.mp h with q | q
    · exact .inl q
    · rw [List.mem_singleton.mp q]; exact .inr (.inl hp)
theorem RH.newM {S Z ι H ah} (h : RH S Z ι H ah) {p : Addr} {o : HO} {u : AO} (hp : H p = none) (hu : RO S Z (ι ++ [p]) (upd H p o) u p) : RH S Z (ι ++ [p]) (upd H p o) (ah ++ [u]) := by
  obtain ⟨f1, f2⟩ := h.fresh hp
  refine ⟨?_, by simp [h.len], fun n a w h1 h2 => ?_, fun a ha => ?_, tb_new h.tb hp⟩
  · rw [List.nodup_append]
    refine ⟨h.nd, by simp, fun a ha b hb => ?_⟩
    rw [List.mem_singleton.mp hb]
    rintro rfl
    exact f1 ha
  · by_cases hn : n < ι.length
    · rw [List.getElem?_append_left hn] at h1
      rw [List.getElem?_append_left (by rw [← h.len]; exact hn)] at h2
      have r := h.at_ n a w h1 h2
      obtain ⟨v, e⟩ := r.tr
      exact r.ext (ext_newM hp) (by rw [upd_ne (ne_of_none e hp)])
    · have hl : n < (ι ++ [p]).length := (List.getElem?_eq_some_iff.mp h1).1
      have e : n = ι.length := by simp at hl; omega
      subst e
      rw [List.getElem?_concat_length] at h1
      have h2' : (ah ++ [u])[ah.length]? = some w := by rw [← h.len]; exact h2
      rw [List.getElem?_concat_length] at h2'
      cases h1; cases h2'
      exact hu
  · obtain ⟨n, v, e, nt⟩ := h.z a ha
    refine ⟨fun hm => ?_, v, by rw [upd_ne (ne_of_none e hp)]; exact e, nt⟩
    rcases List.mem_append.mp hm with q | q
    · exact n q
    · rw [List.mem_singleton.mp q] at e
      rw [hp] at e; cases e
/-- a thing of ours is changed -/
theorem ext_set {ι : List Addr} {H : Hp} {a : Addr} {o : HO} (ha : a ∈ ι) : Ext ι H ι (upd H a o) where
  pre := List.prefix_refl _
  keep := fun b u h _ hb => by rw [upd_ne (fun e => hb (by rw [e]; exact ha))]; exact h
  new := fun _ h => .inl h
theorem RH.set {S Z ι H ah} (h : RH S Z ι H ah) {n : Nat} {a : Addr} {o : HO} {u : AO} (hn : ι[n]? = some a) (hu : RO S Z ι (upd H a o) u a) : RH S Z ι (upd H a o) (ah.set n u) := by
  have ha : a ∈ ι := List.mem_of_getElem? hn
  obtain ⟨u0, eu0, nu0⟩ := h.trN ha
  refine ⟨h.nd, by simp [h.len], fun m b w h1 h2 => ?_, fun b hb => ?_, tb_set h.tb eu0 nu0⟩
  · by_cases e : n = m
    · subst e
      rw [hn] at h1; cases h1
      rw [List.getElem?_set_self (by rw [← h.len]; exact (List.getElem?_eq_some_iff.mp hn).1)] at h2
      cases h2
      exact hu
    · rw [List.getElem?_set_ne e] at h2
      have r := h.at_ m b w h1 h2
      have hb : b ≠ a := fun z => by
        subst z
        exact e ((List.getElem?_inj (List.getElem?_eq_some_iff.mp hn).1 h.nd).mp (hn.trans h1.symm))
      exact r.ext (ext_set ha) (by rw [upd_ne hb])
  · obtain ⟨hz, v, e, nt⟩ := h.z b hb
    exact ⟨hz, v, by rw [upd_ne (fun z => hz (by rw [z]; exact ha))]; exact e, nt⟩

/-! ### slots -/
abbrev Rho := List (Option D)
structure RE (S : Sr) (Z ι : List Addr) (H : Hp) (ρ : Rho) (σ : St) : Prop where
  len : ρ.length = σ.length
  at_ : ∀ (i : Nat) d, ρ[i]? = some (some d) → ∃ v, σ[i]? = some (some v) ∧ RV S.K Z ι H d v
theorem RE.ext {S Z ι H ι' H' ρ σ} (h : RE S Z ι H ρ σ) (x : Ext ι H ι' H') : RE S Z ι' H' ρ σ :=
  ⟨h.len, fun i d e => let ⟨v, h1, h2⟩ := h.at_ i d e; ⟨v, h1, h2.ext x⟩⟩
theorem RE.set {S Z ι H ρ σ d v} (h : RE S Z ι H ρ σ) (r : RV S.K Z ι H d v) (i : Nat) : RE S Z ι H (ρ.set i (some d)) (σ.set i (some v)) := by
  refine ⟨by simp [h.len], fun j e q => ?_⟩
  by_cases hi : i = j
  · subst hi
    have hl : i < ρ.length := by
      have := (List.getElem?_eq_some_iff.mp q).1
      simpa using this
    rw [List.getElem?_set_self hl] at q
    cases q
    exact ⟨v, List.getElem?_set_self (by rw [← h.len]; exact hl), r⟩
  · rw [List.getElem?_set_ne hi] at q
    rw [List.getElem?_set_ne hi]
    exact h.at_ j e q
theorem RE.unset {S Z ι H ρ σ} (h : RE S Z ι H ρ σ) (i : Nat) : RE S Z ι H (ρ.set i none) (σ.set i none) := by
  refine ⟨by simp [h.len], fun j e q => ?_⟩
  by_cases hi : i = j
  · subst hi
    have hl : i < ρ.length := by
      have := (List.getElem?_eq_some_iff.mp q).1
      simpa using this
    rw [List.getElem?_set_self hl] at q
    cases q
  · rw [List.getElem?_set_ne hi] at q
    rw [List.getElem?_set_ne hi]
    exact h.at_ j e q

/-! ### an exception -/
def RX (S : Sr) (Z ι : List Addr) (H : Hp) (x : Exn) (cls : Value) (dx : Option Addr) : Prop :=
  ∃ C, S.mg x.cls = some (.ref C) ∧ cls = .ref C ∧
    match dx with
    | none => x.fs = []
    | some d => ∃ vs, H d = some (.xd ((x.fs.map (·.1)).zip vs)) ∧ RVs S.K Z ι H (x.fs.map (·.2)) vs

/-! ### readings by functions over D -/
def R.bind {α β : Type} (r : R α) (k : α → List AO → R β) : R β := match r with
  | .ok a h => k a h
  | .exc x h => .exc x h
  | .stuck => .stuck
@[simp] theorem R.bind_ok {α β : Type} (a : α) (h : List AO) (k : α → List AO → R β) : (R.ok a h).bind k = k a h := rfl
@[simp] theorem R.bind_exc {α β : Type} (x : Exn) (h : List AO) (k : α → List AO → R β) : (R.exc x h : R α).bind k = .exc x h := rfl
@[simp] theorem R.bind_stuck {α β : Type} (k : α → List AO → R β) : (R.stuck : R α).bind k = .stuck := rfl
abbrev SE := Rho → List AO → R D
abbrev SA := Rho → List AO → R (List D)
/-- an end -/
def ResP {α : Type} (S : Sr) (W : WX) (Z ι : List Addr) (H : Hp) (σ : L2.St) (P : α → List AO → List Addr → Hp → Prop) : R α → Prop
  | .ok a ah' => ∀ ι' H', Ext ι H ι' H' → RH S Z ι' H' ah' → P a ah' ι' H'
  | .exc x ah' => ∀ cls dx ι' H', Ext ι H ι' H' → RH S Z ι' H' ah' → RX S Z ι' H' x cls dx → W cls dx σ H'
  | .stuck => False
section
variable {α β : Type} {S : Sr} {W : WX} {Z ι : List Addr} {H : Hp} {σ : L2.St} {ah : List AO}
theorem ResP.mono {P P' : α → List AO → List Addr → Hp → Prop} {r : R α} (h : ResP S W Z ι H σ P r) (k : ∀ a ah' ι' H', Ext ι H ι' H' → RH S Z ι' H' ah' → P a ah' ι' H' → P' a ah' ι' H') : ResP S W Z ι H σ P' r := by
  cases r with
  | ok a ah' => exact fun ι' H' x r => k a ah' ι' H' x r (h ι' H' x r)
  | exc x ah' => exact h
  | stuck => exact h
theorem ResP.bind {P : β → List AO → List Addr → Hp → Prop} {r : R α} {k : α → List AO → R β} (h : ResP S W Z ι H σ P (r.bind k)) : ResP S W Z ι H σ (fun a ah1 ι1 H1 => ResP S W Z ι1 H1 σ P (k a ah1)) r := by
  cases r with
  | ok a ah1 =>
    intro ι1 H1 x1 _
    have h : ResP S W Z ι H σ P (k a ah1) := h
    cases e : k a ah1 with
    | ok b ah2 => rw [e] at h; exact fun ι2 H2 x2 r2 => h ι2 H2 (x1.trans x2) r2
    | exc x ah2 => rw [e] at h; exact fun cls dx ι2 H2 x2 r2 => h cls dx ι2 H2 (x1.trans x2) r2
    | stuck => rw [e] at h; exact h
  | exc x ah1 => exact h
  | stuck => exact h
/-- here and now -/
theorem ResP.now {P : α → List AO → List Addr → Hp → Prop} {a : α} (h : ResP S W Z ι H σ P (.ok a ah)) (r : RH S Z ι H ah) : P a ah ι H := h ι H .refl r
end
def tOf (S : Sr) (W : WX) (f : SE) : TE := fun σ H Q => ∃ Z ι ρ ah, RH S Z ι H ah ∧ RE S Z ι H ρ σ ∧ ResP S W Z ι H σ (fun d _ ι' H' => ∀ v, RV S.K Z ι' H' d v → Q v H') (f ρ ah)
def tOfA (S : Sr) (W : WX) (f : SA) : TA := fun σ H Q => ∃ Z ι ρ ah, RH S Z ι H ah ∧ RE S Z ι H ρ σ ∧ ResP S W Z ι H σ (fun ds _ ι' H' => ∀ vs, RVs S.K Z ι' H' ds vs → Q vs H') (f ρ ah)
def tOfT (S : Sr) (W : WX) (f : SE) : TT := fun σ H Q => ∃ Z ι ρ ah, RH S Z ι H ah ∧ RE S Z ι H ρ σ ∧ ResP S W Z ι H σ (fun d _ _ H' => ∃ b, d = .bl b ∧ Q b H') (f ρ ah)
abbrev sr (X : Cx) : Sr := ⟨X.K, X.mg⟩
structure DE (X : Cx) (W : WX) (e : Expr) (f : SE) : Prop where
  pe : PE X e (tOf (sr X) W f)
structure DA (X : Cx) (W : WX) (es : List Expr) (f : SA) : Prop where
  pa : PA X es (tOfA (sr X) W f)
structure DT (X : Cx) (W : WX) (e : Expr) (f : SE) : Prop where
  pt : PT X e (tOfT (sr X) W f)
structure DW (X : Cx) (W : WX) (e : Expr) (f : SE) : Prop where
  pw : PW X e (tOfT (sr X) W f)
theorem _root_.L2.PE.weak {X : Cx} {e : Expr} {t t' : TE} (h : PE X e t) (k : ∀ σ H Q, t' σ H Q → t σ H Q) : PE X e t' := ⟨fun pins s σ H Q I q => h.run pins s σ H Q I (k σ H Q q)⟩
theorem _root_.L2.PA.weak {X : Cx} {e : List Expr} {t t' : TA} (h : PA X e t) (k : ∀ σ H Q, t' σ H Q → t σ H Q) : PA X e t' := ⟨fun pos pins s σ H Q I q => h.run pos pins s σ H Q I (k σ H Q q)⟩
theorem _root_.L2.PT.weak {X : Cx} {e : Expr} {t t' : TT} (h : PT X e t) (k : ∀ σ H Q, t' σ H Q → t σ H Q) : PT X e t' := ⟨fun pins s σ H Q I q => h.run pins s σ H Q I (k σ H Q q)⟩
theorem _root_.L2.PW.weak {X : Cx} {e : Expr} {t t' : TT} (h : PW X e t) (k : ∀ σ H Q, t' σ H Q → t σ H Q) : PW X e t' := ⟨fun wh pins s σ H Q I q => h.run wh pins s σ H Q I (k σ H Q q)⟩

/-! ### names, constants -/
def cVar (i : Nat) : SE := fun ρ ah => match ρ[i]? with
  | some (some d) => .ok d ah
  | _ => .stuck
def cC (d : D) : SE := fun _ ah => .ok d ah
section
variable {X : Cx} {W : WX} {pos : Pos}
theorem de_var (i : Nat) {x : Str} (hN : X.N[i]? = some x := by rfl) (hv : Vis X.env.scope x := by first | exact Or.inl rfl | exact Or.inr (Or.inl rfl) | exact Or.inr (Or.inr rfl)) (hd : (x == ("__debug__" : Str)) = false := by decide)
    (hcd : (x == ("__classdict__" : Str)) = false := by decide) : DE X W (.Name x pos) (cVar i) := by
  refine ⟨(pe_var hN hv hd hcd).weak fun σ H Q h => ?_⟩
  obtain ⟨Z, ι, ρ, ah, hH, hE, h⟩ := h
  unfold cVar at h
  cases e : ρ[i]? with
  | none => rw [e] at h; exact h.elim
  | some o =>
    rw [e] at h
    cases o with
    | none => exact h.elim
    | some d =>
      obtain ⟨v, e1, r⟩ := hE.at_ i d e
      exact ⟨v, e1, h.now hH v r⟩
theorem de_cst {e : Expr} {d : D} {v : V} (h : PE X e (tC v)) (r : ∀ Z ι H, RV X.K Z ι H d v) : DE X W e (cC d) := by
  refine ⟨h.weak fun σ H Q h => ?_⟩
  obtain ⟨Z, ι, ρ, ah, hH, hE, h⟩ := h
  exact (h.now hH) v (r _ _ _)
theorem de_int {i j} : DE X W (.Constant (.int i) j pos) (cC (.int i)) := de_cst pe_int fun _ _ _ => .int i
theorem de_bl {b j} : DE X W (.Constant (.bool b) j pos) (cC (.bl b)) := de_cst pe_bl fun _ _ _ => .bl b
theorem de_non {j} : DE X W (.Constant .none j pos) (cC .non) := de_cst pe_non fun _ _ _ => .non
theorem de_str {x j} (h : PySem.PyData.strOk x = true := by decide +kernel) : DE X W (.Constant (.str x) j pos) (cC (.str x)) := de_cst pe_str fun _ _ _ => .str x h
/-- a plain constant of the module -/
theorem de_glob {x : Str} {d : D} {v : V} {u : Value} (hg : Gl X x) (hm : X.mg x = some u) (r : RelV v u) (q : ∀ Z ι H, RV X.K Z ι H d v) (hd : (x == ("__debug__" : Str)) = false := by decide) : DE X W (.Name x pos) (cC d) := de_cst (pe_glob hg hm r hd) q
/-! ### argument lists, displays -/
def aNil : SA := fun _ ah => .ok [] ah
def aCons (f : SE) (g : SA) : SA := fun ρ ah => (f ρ ah).bind fun d ah1 => (g ρ ah1).bind fun ds ah2 => .ok (d :: ds) ah2
theorem da_nil : DA X W [] aNil := by
  refine ⟨pa_nil.weak fun σ H Q h => ?_⟩
  obtain ⟨Z, ι, ρ, ah, hH, hE, h⟩ := h
  exact (h.now hH) [] .nil
theorem da_cons {e : Expr} {es : List Expr} {f : SE} {g : SA} (h1 : DE X W e f) (h2 : DA X W es g) (hs : starEach (e :: es) X.env = (false, eval e X.env) :: starEach es X.env := by rfl) : DA X W (e :: es) (aCons f g) := by
  refine ⟨(pa_cons h1.pe h2.pa hs).weak fun σ H Q h => ?_⟩
  obtain ⟨Z, ι, ρ, ah, hH, hE, h⟩ := h
  refine ⟨Z, ι, ρ, ah, hH, hE, h.bind.mono fun d ah1 ι1 H1 x1 hH1 h v rv => ?_⟩
  refine ⟨Z, ι1, ρ, ah1, hH1, hE.ext x1, h.bind.mono fun ds ah2 ι2 H2 x2 hH2 h vs rvs => ?_⟩
  exact (h.now hH2) (v :: vs) (.cons (rv.ext x2) rvs)
def cTup (g : SA) : SE := fun ρ ah => (g ρ ah).bind fun ds ah1 => if ds.length ≤ sizeLine then .ok (.tup ds) ah1 else .stuck
def cLst (g : SA) : SE := fun ρ ah => (g ρ ah).bind fun ds ah1 => if ds.length ≤ sizeLine then .ok (.lst ds) ah1 else .stuck
/-- a list that is changed later -/
def cLstM (g : SA) : SE := fun ρ ah => (g ρ ah).bind fun ds ah1 => if ds.length ≤ sizeLine then .ok (.ref ah1.length) (ah1 ++ [.lst ds]) else .stuck
theorem rv_tup {S : Sr} {Z ι : List Addr} {H : Hp} {ah : List AO} {p : Addr} {ds : List D} {vs : List V} (hH : RH S Z ι H ah) (hp : H p = none) (r : RVs S.K Z ι H ds vs) (hl : vs.length ≤ sizeLine) : RV S.K Z ι (upd H p (.tup vs)) (.tup ds) (.ref p) :=
  .tup (.inl ⟨hH.fresh hp, .inl upd_same⟩) hl (r.ext (ext_new hp))
theorem rv_lst {S : Sr} {Z ι : List Addr} {H : Hp} {ah : List AO} {p : Addr} {ds : List D} {vs : List V} (hH : RH S Z ι H ah) (hp : H p = none) (r : RVs S.K Z ι H ds vs) (hl : vs.length ≤ sizeLine) : RV S.K Z ι (upd H p (.lst vs)) (.lst ds) (.ref p) :=
  .lst (hH.fresh hp).1 (hH.fresh hp).2 upd_same hl (r.ext (ext_new hp))
theorem de_tup {es : List Expr} {g : SA} {x1} (h : DA X W es g) : DE X W (.Tuple es x1 pos) (cTup g) := by
  refine ⟨(pe_tup h.pa).weak fun σ H Q h => ?_⟩
  obtain ⟨Z, ι, ρ, ah, hH, hE, h⟩ := h
  refine ⟨Z, ι, ρ, ah, hH, hE, h.bind.mono fun ds ah1 ι1 H1 x1 hH1 h vs rvs => ?_⟩
  have e := rvs.length
  by_cases hl : ds.length ≤ sizeLine
  · rw [if_pos hl] at h
    exact ⟨by omega, fun p hp => h ι1 _ (ext_new hp) (hH1.new hp) _ (rv_tup hH1 hp rvs (by omega))⟩
  · rw [if_neg hl] at h; exact h.elim
theorem de_lst {es : List Expr} {g : SA} (h : DA X W es g) : DE X W (.List es pos) (cLst g) := by
  refine ⟨(pe_lst h.pa).weak fun σ H Q h => ?_⟩
  obtain ⟨Z, ι, ρ, ah, hH, hE, h⟩ := h
  refine ⟨Z, ι, ρ, ah, hH, hE, h.bind.mono fun ds ah1 ι1 H1 x1 hH1 h vs rvs => ?_⟩
  have e := rvs.length
  by_cases hl : ds.length ≤ sizeLine
  · rw [if_pos hl] at h
    exact ⟨by omega, fun p hp => h ι1 _ (ext_new hp) (hH1.new hp) _ (rv_lst hH1 hp rvs (by omega))⟩
  · rw [if_neg hl] at h; exact h.elim
theorem de_lstM {es : List Expr} {g : SA} (h : DA X W es g) : DE X W (.List es pos) (cLstM g) := by
  refine ⟨(pe_lst h.pa).weak fun σ H Q h => ?_⟩
  obtain ⟨Z, ι, ρ, ah, hH, hE, h⟩ := h
  refine ⟨Z, ι, ρ, ah, hH, hE, h.bind.mono fun ds ah1 ι1 H1 x1 hH1 h vs rvs => ?_⟩
  have e := rvs.length
  by_cases hl : ds.length ≤ sizeLine
  · rw [if_pos hl] at h
    refine ⟨by omega, fun p hp => ?_⟩
    have xe : Ext ι1 H1 (ι1 ++ [p]) (upd H1 p (.lst vs)) := ext_newM hp
    refine h (ι1 ++ [p]) _ xe (hH1.newM hp ⟨vs, upd_same, by omega, rvs.ext xe⟩) _ (.ref ?_)
    rw [← hH1.len, List.getElem?_concat_length]
  · rw [if_neg hl] at h; exact h.elim
end
end Qd

set_option Elab.async false
set_option linter.all false
set_option maxRecDepth 100000
set_option maxHeartbeats 2000000
/-! QExpr: operators, comparisons, tests, subscripts. -/
namespace Qd
open PySem PySem.Spec L2

/-! ### data as the library's data -/
mutual
def D.py : D → PyData
  | .non => .none
  | .bl b => .bool b
  | .int i => .int i
  | .str x => .str x
  | .tup ds => .tuple (D.pys ds)
  | .lst ds => .list (D.pys ds)
  | .ref _ => .dict []
  | .scr _ => .dict []
def D.pys : List D → List PyData
  | [] => []
  | d :: ds => D.py d :: D.pys ds
end
theorem D.pys_map : ∀ ds : List D, D.pys ds = ds.map D.py
  | [] => rfl
  | d :: ds => by rw [D.pys, D.pys_map ds]; rfl
mutual
theorem RV.dp {K Z ι H} : ∀ {d : D} {v : V}, RV K Z ι H d v → d.nr = true → Dp K H v d.py
  | _, _, .non, _ => .non
  | _, _, .bl b, _ => .bl b
  | _, _, .int i, _ => .int i
  | _, _, .str x _, _ => .str x
  | _, _, .ref _, h => by simp [D.nr] at h
  | _, _, .scr _ _, h => by simp [D.nr] at h
  | _, _, .lst _ _ e _ r, h => by rw [D.py]; exact .lst (.of e) (RVs.dp r (by simpa [D.nr] using h))
  | _, _, .tup f _ r, h => by rw [D.py]; exact .tup f.sq (RVs.dp r (by simpa [D.nr] using h))
theorem RVs.dp {K Z ι H} : ∀ {ds : List D} {vs : List V}, RVs K Z ι H ds vs → D.nrs ds = true → DpAll K H vs (D.pys ds)
  | _, _, .nil, _ => .nil
  | _, _, .cons r t, h => by
    rw [D.nrs, Bool.and_eq_true] at h
    rw [D.pys]
    exact .cons (RV.dp r h.1) (RVs.dp t h.2)
end
mutual
theorem RV.lay {K Z ι H} : ∀ {d : D} {v : V}, RV K Z ι H d v → d.nr = true → d.py.canLay0 = true
  | _, _, .non, _ => by simp [D.py, PyData.canLay0]
  | _, _, .bl b, _ => by simp [D.py, PyData.canLay0]
  | _, _, .int i, _ => by simp [D.py, PyData.canLay0]
  | _, _, .str x h, _ => by simpa [D.py, PyData.canLay0] using h
  | _, _, .ref _, h => by simp [D.nr] at h
  | _, _, .scr _ _, h => by simp [D.nr] at h
  | _, _, .lst _ _ e _ r, h => by rw [D.py, PyData.canLay0]; exact (RVs.lay r (by simpa [D.nr] using h))
  | _, _, .tup f _ r, h => by rw [D.py, PyData.canLay0]; exact (RVs.lay r (by simpa [D.nr] using h))
theorem RVs.lay {K Z ι H} : ∀ {ds : List D} {vs : List V}, RVs K Z ι H ds vs → D.nrs ds = true → PyData.canLayAll0 (D.pys ds) = true
  | _, _, .nil, _ => by simp [D.pys, PyData.canLayAll0]
  | _, _, .cons r t, h => by
    rw [D.nrs, Bool.and_eq_true] at h
    rw [D.pys, PyData.canLayAll0, RV.lay r h.1, RVs.lay t h.2]; rfl
end
mutual
/-- nesting -/
def D.dep : D → Nat
  | .tup ds => D.deps ds + 1
  | .lst ds => D.deps ds + 1
  | _ => 0
def D.deps : List D → Nat
  | [] => 0
  | d :: ds => max (D.dep d) (D.deps ds)
end
mutual
theorem D.dep_py : ∀ d : D, d.nr = true → d.py.depth = d.dep
  | .non, _ => by simp [D.py, D.dep, PyData.depth]
  | .bl b, _ => by simp [D.py, D.dep, PyData.depth]
  | .int i, _ => by simp [D.py, D.dep, PyData.depth]
  | .str x, _ => by simp [D.py, D.dep, PyData.depth]
  | .ref _, h => by simp [D.nr] at h
  | .scr _, h => by simp [D.nr] at h
  | .lst ds, h => by rw [D.py, D.dep, PyData.depth, D.deps_py ds (by simpa [D.nr] using h)]
  | .tup ds, h => by rw [D.py, D.dep, PyData.depth, D.deps_py ds (by simpa [D.nr] using h)]
theorem D.deps_py : ∀ ds : List D, D.nrs ds = true → PyData.depthAll (D.pys ds) = D.deps ds
  | [], _ => by simp [D.pys, D.deps, PyData.depthAll]
  | d :: ds, h => by
    rw [D.nrs, Bool.and_eq_true] at h
    rw [D.pys, D.deps, PyData.depthAll, D.dep_py d h.1, D.deps_py ds h.2]
end
/-! equality -/
mutual
def D.eq : D → D → Bool
  | .non, .non => true
  | .bl a, .bl b => a == b
  | .bl a, .int j => (if a then 1 else 0) == j
  | .int i, .bl b => i == (if b then 1 else 0)
  | .int i, .int j => i == j
  | .str x, .str y => x == y
  | .lst xs, .lst ys => D.eqs xs ys
  | .tup xs, .tup ys => D.eqs xs ys
  | _, _ => false
def D.eqs : List D → List D → Bool
  | [], [] => true
  | x :: xs, y :: ys => D.eq x y && D.eqs xs ys
  | _, _ => false
end
mutual
theorem D.eq_py : ∀ d e : D, PyData.eqv d.py e.py = D.eq d e
  | .lst xs, .lst ys => by rw [D.py, D.py, PyData.eqv, D.eqs_py xs ys, D.eq]
  | .tup xs, .tup ys => by rw [D.py, D.py, PyData.eqv, D.eqs_py xs ys, D.eq]
  | .non, e => by cases e <;> simp [D.py, PyData.eqv, D.eq]
  | .bl b, e => by cases e <;> simp [D.py, PyData.eqv, D.eq]
  | .int b, e => by cases e <;> simp [D.py, PyData.eqv, D.eq]
  | .str b, e => by cases e <;> simp [D.py, PyData.eqv, D.eq]
  | .ref b, e => by cases e <;> simp [D.py, PyData.eqv, D.eq]
  | .scr b, e => by cases e <;> simp [D.py, PyData.eqv, D.eq]
  | .lst xs, .non => by simp [D.py, PyData.eqv, D.eq]
  | .lst xs, .bl _ => by simp [D.py, PyData.eqv, D.eq]
  | .lst xs, .int _ => by simp [D.py, PyData.eqv, D.eq]
  | .lst xs, .str _ => by simp [D.py, PyData.eqv, D.eq]
  | .lst xs, .tup _ => by simp [D.py, PyData.eqv, D.eq]
  | .lst xs, .ref _ => by simp [D.py, PyData.eqv, D.eq]
  | .lst xs, .scr _ => by simp [D.py, PyData.eqv, D.eq]
  | .tup xs, .non => by simp [D.py, PyData.eqv, D.eq]
  | .tup xs, .bl _ => by simp [D.py, PyData.eqv, D.eq]
  | .tup xs, .int _ => by simp [D.py, PyData.eqv, D.eq]
  | .tup xs, .str _ => by simp [D.py, PyData.eqv, D.eq]
  | .tup xs, .lst _ => by simp [D.py, PyData.eqv, D.eq]
  | .tup xs, .ref _ => by simp [D.py, PyData.eqv, D.eq]
  | .tup xs, .scr _ => by simp [D.py, PyData.eqv, D.eq]
theorem D.eqs_py : ∀ ds es : List D, PyData.eqvAll (D.pys ds) (D.pys es) = D.eqs ds es
  | [], [] => by simp [D.pys, PyData.eqvAll, D.eqs]
  | [], _ :: _ => by simp [D.pys, PyData.eqvAll, D.eqs]
  | _ :: _, [] => by simp [D.pys, PyData.eqvAll, D.eqs]
  | d :: ds, e :: es => by rw [D.pys, D.pys, PyData.eqvAll, D.eq_py d e, D.eqs_py ds es, D.eqs]
end

/-- a list that may change is read as it stands -/
def look (ah : List AO) : D → D
  | .ref n => match ah[n]? with
    | some (.lst ds) => .lst ds
    | _ => .ref n
  | .scr ns => .lst (ns.map D.int)
  | d => d
section
variable {S : Sr} {Z ι : List Addr} {H : Hp} {ah : List AO} {d : D} {v : V} {ds : List D}
theorem RVs.of_ints {K Z ι H} : ∀ ns : List Int, RVs K Z ι H (ns.map D.int) (ns.map V.int)
  | [] => .nil
  | n :: ns => .cons (.int n) (RVs.of_ints ns)
theorem look_lst (hH : RH S Z ι H ah) (r : RV S.K Z ι H d v) (e : look ah d = .lst ds) : ∃ a xs, v = .ref a ∧ SqL S.K H a xs ∧ xs.length ≤ sizeLine ∧ RVs S.K Z ι H ds xs := by
  cases r with
  | lst n1 n2 h l r => cases e; exact ⟨_, _, rfl, .of h, l, r⟩
  | @ref n a h =>
    unfold look at e
    simp only at e
    cases q : ah[n]? with
    | none => rw [q] at e; cases e
    | some o =>
      rw [q] at e
      cases o with
      | lst es =>
        cases e
        obtain ⟨xs, h1, h2, h3⟩ := hH.at_ n a _ h q
        exact ⟨a, xs, rfl, .of h1, h2, h3⟩
      | obj c fs => cases e
  | @scr a ns h l =>
    cases e
    exact ⟨a, _, rfl, h.sq, by simpa using l, RVs.of_ints ns⟩
  | non => cases e
  | bl b => cases e
  | int i => cases e
  | str x h => cases e
  | tup f l r => cases e
theorem look_tup {K : PySem.W.Frag} (r : RV K Z ι H d v) (e : look ah d = .tup ds) : ∃ a xs, v = .ref a ∧ d = .tup ds ∧ FzT K Z ι H a xs ∧ xs.length ≤ sizeLine ∧ RVs K Z ι H ds xs := by
  cases r with
  | tup f l r => cases e; exact ⟨_, _, rfl, rfl, f, l, r⟩
  | @ref n a h =>
    unfold look at e
    simp only at e
    split at e <;> cases e
  | _ => cases e
theorem look_int {K : PySem.W.Frag} {i : Int} (r : RV K Z ι H d v) (e : look ah d = .int i) : v = .int i := by
  cases r with
  | int i => cases e; rfl
  | @ref n a h => unfold look at e; simp only at e; split at e <;> cases e
  | _ => cases e
theorem look_str {K : PySem.W.Frag} {x : Str} (r : RV K Z ι H d v) (e : look ah d = .str x) : v = .str x ∧ PyData.strOk x = true := by
  cases r with
  | str x h => cases e; exact ⟨rfl, h⟩
  | @ref n a h => unfold look at e; simp only at e; split at e <;> cases e
  | _ => cases e
/-- what is looked at, as data -/
theorem look_dp (hH : RH S Z ι H ah) (r : RV S.K Z ι H d v) (e : (look ah d).nr = true) : Dp S.K H v (look ah d).py ∧ (look ah d).py.canLay0 = true := by
  cases q : look ah d with
  | lst ds =>
    obtain ⟨a, xs, rfl, h1, h2, h3⟩ := look_lst hH r q
    rw [q] at e
    have e' : D.nrs ds = true := by simpa [D.nr] using e
    refine ⟨?_, ?_⟩
    · rw [D.py]; exact .lst h1 (h3.dp e')
    · rw [D.py, PyData.canLay0]; exact h3.lay e'
  | _ =>
    rw [q] at e
    cases d with
    | ref n =>
      unfold look at q
      simp only at q
      split at q <;> first | (cases q; done) | (cases q; simp [D.nr] at e)
    | scr ns => cases q
    | _ => cases q <;> exact ⟨r.dp e, r.lay e⟩
end

/-! ### operators by values -/
abbrev DOp := D → D → List AO → R D
def cOp (op : DOp) (f g : SE) : SE := fun ρ ah => (f ρ ah).bind fun x ah1 => (g ρ ah1).bind fun y ah2 => op x y ah2
/-- a value and no more -/
def ret? (o : Option D) (ah : List AO) : R D := match o with
  | some d => .ok d ah
  | none => .stuck
@[simp] theorem ret?_some (d : D) (ah : List AO) : ret? (some d) ah = .ok d ah := rfl
@[simp] theorem ret?_none (ah : List AO) : ret? none ah = .stuck := rfl
section
variable {X : Cx} {W : WX} {pos : Pos} {e e1 e2 e3 : Expr} {f g k : SE}
def OpSim (X : Cx) (r : R2) (op : DOp) : Prop :=
  ∀ (W : WX) (Z ι : List Addr) (H : Hp) (σ : L2.St) (ah : List AO) (a b : D) (x y : V) (Q : VK), RH (sr X) Z ι H ah → RV X.K Z ι H a x → RV X.K Z ι H b y →
    ResP (sr X) W Z ι H σ (fun d _ ι' H' => ∀ v, RV X.K Z ι' H' d v → Q v H') (op a b ah) → r x y H Q
theorem cOp_run {r : R2} {op : DOp} (hs : OpSim X r op) {σ : L2.St} {H : Hp} {Q : VK} (h : tOf (sr X) W (cOp op f g) σ H Q) : tOp r (tOf (sr X) W f) (tOf (sr X) W g) σ H Q := by
  obtain ⟨Z, ι, ρ, ah, hH, hE, h⟩ := h
  refine ⟨Z, ι, ρ, ah, hH, hE, h.bind.mono fun a ah1 ι1 H1 x1 hH1 h x rx => ?_⟩
  refine ⟨Z, ι1, ρ, ah1, hH1, hE.ext x1, h.bind.mono fun b ah2 ι2 H2 x2 hH2 h y ry => ?_⟩
  exact hs W Z ι2 H2 σ ah2 a b x y Q hH2 (rx.ext x2) ry h
theorem de_op {op : Operator} {r : R2} {o : DOp} (ho : OpR X (binaryOp op) r) (hs : OpSim X r o) (h1 : DE X W e1 f) (h2 : DE X W e2 g) : DE X W (.BinOp e1 op e2 pos) (cOp o f g) :=
  ⟨(pe_op ho h1.pe h2.pe).weak fun _ _ _ h => cOp_run hs h⟩
theorem de_cmp {op : CmpOp} {r : R2} {o : DOp} (ho : OpR X (compareOp op) r) (hs : OpSim X r o) (h1 : DE X W e1 f) (h2 : DE X W e2 g) (hm : behindInMarks op e2 = false) : DE X W (.Compare e1 [op] [e2] pos) (cOp o f g) :=
  ⟨(pe_cmpR ho h1.pe h2.pe hm).weak fun _ _ _ h => cOp_run hs h⟩
/-- a reading of a value as a reading of a test -/
theorem tTest_of {t : TE} (hx : ∀ σ H Q, tOf (sr X) W f σ H Q → t σ H Q) {σ : L2.St} {H : Hp} {Q : Bool → Hp → Prop} (h : tOfT (sr X) W f σ H Q) : tTest t σ H Q := by
  obtain ⟨Z, ι, ρ, ah, hH, hE, h⟩ := h
  refine hx σ H _ ⟨Z, ι, ρ, ah, hH, hE, h.mono fun d ah' ι' H' _ _ q v r => ?_⟩
  obtain ⟨b, rfl, q⟩ := q
  cases r
  exact ⟨b, rfl, q⟩
theorem dt_cmp {op : CmpOp} {r : R2} {o : DOp} (ho : OpR X (compareOp op) r) (hs : OpSim X r o) (h1 : DE X W e1 f) (h2 : DE X W e2 g) (hm : behindInMarks op e2 = false) : DT X W (.Compare e1 [op] [e2] pos) (cOp o f g) :=
  ⟨(pt_cmpR ho h1.pe h2.pe hm).weak fun _ _ _ h => tTest_of (fun _ _ _ h => cOp_run hs h) h⟩
/-- an expression that gives a truth, as a test -/
theorem dt_val (h : DE X W e f) (he : ∀ whole, isTrue e X.env whole = (do let v ← whole; standAt e.pos; holding [v] (truthy v)) := by intro _; rfl) : DT X W e f :=
  ⟨(pt_val h.pe he).weak fun _ _ _ h => tTest_of (fun _ _ _ h => h) h⟩

/-! ### the operators -/
def R2or (r r' : R2) : R2 := fun x y H Q => r x y H Q ∨ r' x y H Q
def dAdd : DOp := fun a b ah => match look ah a, look ah b with
  | .int i, .int j => .ok (.int (i + j)) ah
  | .str x, .str y => if x.length + y.length ≤ sizeLine then .ok (.str (x ++ y)) ah else .stuck
  | .tup xs, .tup ys => if xs.length + ys.length ≤ sizeLine then .ok (.tup (xs ++ ys)) ah else .stuck
  | .lst xs, .lst ys => if xs.length + ys.length ≤ sizeLine then .ok (.lst (xs ++ ys)) ah else .stuck
  | _, _ => .stuck
theorem strOk_app {x y : Str} (h1 : PyData.strOk x = true) (h2 : PyData.strOk y = true) : PyData.strOk (x ++ y) = true := by
  unfold PyData.strOk at *
  show (x.cps ++ y.cps).all _ = true
  rw [Array.all_append, h1, h2]; rfl
/-- lists read, not only tracked ones -/
def rCatL (K : PySem.W.Frag) : R2 := fun x y H Q => ∃ l b xs zs, x = .ref l ∧ y = .ref b ∧ SqL K H l xs ∧ SqL K H b zs ∧ xs.length + zs.length ≤ sizeLine ∧ ∀ p, H p = none → Q (.ref p) (upd H p (.lst (xs ++ zs)))
theorem op_catL : OpR X (binaryOp .Add) (rCatL X.K) := by
  intro pins s σ H x y v u Q I rx ry h
  obtain ⟨l, b, xs, zs, rfl, rfl, hl, hb, hz, q⟩ := h
  cases rx
  cases ry
  obtain ⟨its, r1, p1, _⟩ := I.list hl
  obtain ⟨its2, r2, p2, _⟩ := I.list hb
  obtain ⟨⟨cls, dd, data, sl⟩, ho, hc, n, hd⟩ := id p1.isList
  obtain ⟨⟨cls2, dd2, data2, sl2⟩, ho2, hc2, n2, hd2⟩ := id p2.isList
  simp only at hc hd hc2 hd2
  subst hc hd hc2 hd2
  have e : its.toArray ++ its2.toArray = (its ++ its2).toArray := by simp
  have hsz : its.toArray.size + its2.toArray.size ≤ sizeLine := by rw [List.size_toArray, List.size_toArray, ← r1.length, ← r2.length]; exact hz
  refine concat_meets ⟨_, ho, rfl⟩ ⟨_, ho2, rfl⟩ noFill_list_add seq_list_add PySem.F.slot_list_add PySem.F.entry_list_add (PySem.F.args_list_add_2 _ _) (PyProof.Rows.list_addW l b its.toArray its2.toArray n n2 dd dd2 sl sl2 hsz) ⟨ho, ho2, ?_⟩
  rw [e]
  exact ⟨.ref _, _, I.lnew (t' := s.toks) (r1.append r2) (by rw [List.length_append]; exact hz), rfl, q _ I.fresh⟩
abbrev rAdds (K : PySem.W.Frag) : R2 := fun x y H Q => rI0 (fun i j => .int (i + j)) x y H Q ∨ (fun x y H Q => ∃ i j, x = V.str i ∧ y = V.str j ∧ i.length + j.length ≤ sizeLine ∧ Q (.str (i ++ j)) H) x y H Q ∨ rCatA K x y H Q ∨ rCatL K x y H Q
theorem op_adds : OpR X (binaryOp .Add) (rAdds X.K) := op_add.or (op_add_str.or (op_catA.or op_catL))
theorem sim_add : OpSim X (rAdds X.K) dAdd := by
  intro W Z ι H σ ah a b x y Q hH ra rb h
  unfold dAdd at h
  split at h
  · rename_i i j ea eb
    cases look_int ra ea; cases look_int rb eb
    exact .inl ⟨i, j, rfl, rfl, h.now hH _ (.int _)⟩
  · rename_i i j ea eb
    obtain ⟨rfl, h1⟩ := look_str ra ea
    obtain ⟨rfl, h2⟩ := look_str rb eb
    split at h
    · rename_i hl
      exact .inr (.inl ⟨i, j, rfl, rfl, hl, h.now hH _ (.str _ (strOk_app h1 h2))⟩)
    · exact h.elim
  · rename_i xs ys ea eb
    obtain ⟨p, vs, rfl, rfl, f1, l1, r1⟩ := look_tup ra ea
    obtain ⟨q, ws, rfl, rfl, f2, l2, r2⟩ := look_tup rb eb
    have e1 := r1.length
    have e2 := r2.length
    split at h
    · rename_i hl
      refine .inr (.inr (.inl ⟨p, q, vs, ws, rfl, rfl, f1.sq, f2.sq, by omega, fun z => ?_, fun _ z => ?_, fun _ _ t ht => ?_⟩))
      · rw [r1.nil_iff.mp z] at h
        exact h.now hH _ rb
      · rw [r2.nil_iff.mp z, List.append_nil] at h
        exact h.now hH _ ra
      · exact h ι _ (ext_new ht) (hH.new ht) _ (rv_tup hH ht (r1.append r2) (by rw [List.length_append]; omega))
    · exact h.elim
  · rename_i xs ys ea eb
    obtain ⟨p, vs, rfl, f1, l1, r1⟩ := look_lst hH ra ea
    obtain ⟨q, ws, rfl, f2, l2, r2⟩ := look_lst hH rb eb
    have e1 := r1.length
    have e2 := r2.length
    split at h
    · rename_i hl
      refine .inr (.inr (.inr ⟨p, q, vs, ws, rfl, rfl, f1, f2, by omega, fun t ht => ?_⟩))
      exact h ι _ (ext_new ht) (hH.new ht) _ (rv_lst hH ht (r1.append r2) (by rw [List.length_append]; omega))
    · exact h.elim
  · exact h.elim
theorem de_add (h1 : DE X W e1 f) (h2 : DE X W e2 g) : DE X W (.BinOp e1 .Add e2 pos) (cOp dAdd f g) := de_op op_adds sim_add h1 h2

/-- ints, a condition, an int -/
def dInt (c : Int → Int → Bool) (o : Int → Int → Int) : DOp := fun a b ah => match a, b with
  | .int i, .int j => if c i j = true then .ok (.int (o i j)) ah else .stuck
  | _, _ => .stuck
theorem sim_int {C : Int → Int → Prop} {c : Int → Int → Bool} {o : Int → Int → Int} (hc : ∀ i j, c i j = true → C i j) : OpSim X (rI C fun i j => .int (o i j)) (dInt c o) := by
  intro W Z ι H σ ah a b x y Q hH ra rb h
  unfold dInt at h
  split at h
  · rename_i i j
    split at h
    · rename_i hl
      cases ra; cases rb
      exact ⟨i, j, rfl, rfl, hc i j hl, h.now hH _ (.int _)⟩
    · exact h.elim
  · exact h.elim
theorem sim_int0 {o : Int → Int → Int} : OpSim X (rI0 fun i j => .int (o i j)) (dInt (fun _ _ => true) o) := by
  intro W Z ι H σ ah a b x y Q hH ra rb h
  unfold dInt at h
  split at h
  · rename_i i j
    rw [if_pos rfl] at h
    cases ra; cases rb
    exact ⟨i, j, rfl, rfl, h.now hH _ (.int _)⟩
  · exact h.elim
abbrev dSub : DOp := dInt (fun _ _ => true) (· - ·)
abbrev dMul : DOp := dInt (fun i j => decide (i.natAbs.log2 + j.natAbs.log2 < 1000000)) (· * ·)
abbrev dDiv : DOp := dInt (fun _ j => decide (0 < j) && decide (j.natAbs.log2 < 9000)) (· / ·)
abbrev dMod : DOp := dInt (fun _ j => decide (0 < j)) (· % ·)
abbrev dPow : DOp := dInt (fun i j => decide (0 ≤ j) && decide (j ≤ 1000000) && decide (i.natAbs < 2 ^ 64)) (fun i j => i ^ j.toNat)
abbrev dShr : DOp := dInt (fun _ j => decide (0 ≤ j)) (fun i j => i / 2 ^ j.toNat)
abbrev dAnd : DOp := dInt (fun _ _ => true) Builtin.bitAnd
theorem de_sub (h1 : DE X W e1 f) (h2 : DE X W e2 g) : DE X W (.BinOp e1 .Sub e2 pos) (cOp dSub f g) := de_op op_sub sim_int0 h1 h2
theorem de_mul (h1 : DE X W e1 f) (h2 : DE X W e2 g) : DE X W (.BinOp e1 .Mult e2 pos) (cOp dMul f g) := de_op op_mulW (sim_int fun _ _ h => by unfold CMulW; simpa using h) h1 h2
theorem de_div (h1 : DE X W e1 f) (h2 : DE X W e2 g) : DE X W (.BinOp e1 .FloorDiv e2 pos) (cOp dDiv f g) := de_op op_fdivW (sim_int fun _ _ h => by unfold CDivW; simpa using h) h1 h2
theorem de_mod (h1 : DE X W e1 f) (h2 : DE X W e2 g) : DE X W (.BinOp e1 .Mod e2 pos) (cOp dMod f g) := de_op op_mod (sim_int fun _ _ h => by simpa using h) h1 h2
theorem de_pow (h1 : DE X W e1 f) (h2 : DE X W e2 g) : DE X W (.BinOp e1 .Pow e2 pos) (cOp dPow f g) := de_op op_pow (sim_int fun _ _ h => by unfold CPow; simpa [and_assoc] using h) h1 h2
theorem de_shr (h1 : DE X W e1 f) (h2 : DE X W e2 g) : DE X W (.BinOp e1 .RShift e2 pos) (cOp dShr f g) := de_op op_shr (sim_int fun _ _ h => by simpa using h) h1 h2
theorem de_bitand (h1 : DE X W e1 f) (h2 : DE X W e2 g) : DE X W (.BinOp e1 .BitAnd e2 pos) (cOp dAnd f g) := de_op op_and sim_int0 h1 h2
def cUn (o : D → Option D) (f : SE) : SE := fun ρ ah => (f ρ ah).bind fun d ah1 => ret? (o d) ah1
def dNeg : D → Option D
  | .int i => some (.int (-i))
  | _ => none
theorem de_neg (h1 : DE X W e1 f) : DE X W (.UnaryOp .USub e1 pos) (cUn dNeg f) := by
  refine ⟨(pe_un un_neg h1.pe).weak fun σ H Q h => ?_⟩
  obtain ⟨Z, ι, ρ, ah, hH, hE, h⟩ := h
  refine ⟨Z, ι, ρ, ah, hH, hE, h.bind.mono fun a ah1 ι1 H1 x1 hH1 h v rv => ?_⟩
  cases rv with
  | int i => exact ⟨i, rfl, h.now hH1 _ (.int _)⟩
  | _ => exact h.elim

/-! ### comparisons -/
def eqOk (ah : List AO) (a b : D) : Bool := (look ah a).nr && (look ah b).nr && decide (min (look ah a).dep (look ah b).dep ≤ 64)
def dEq : DOp := fun a b ah => if eqOk ah a b = true then .ok (.bl (D.eq (look ah a) (look ah b))) ah else .stuck
def dNe : DOp := fun a b ah => if eqOk ah a b = true then .ok (.bl (!D.eq (look ah a) (look ah b))) ah else .stuck
/-- == of data that are read -/
def rEqN (K : PySem.W.Frag) (neg : Bool) : R2 := fun x y H Q => ∃ d e, Dp K H x d ∧ Dp K H y e ∧ d.canLay0 = true ∧ e.canLay0 = true ∧ min d.depth e.depth ≤ 64 ∧ Q (.bl (if neg then !PyData.eqv d e else PyData.eqv d e)) H
theorem op_eqN (hu : X.A.units + 64 < cLine) : OpR X (compareOp .Eq) (rEqN X.K false) := by
  intro pins s σ H x y v u Q I rx ry h
  obtain ⟨d, e, hd, he, sd, se, hm, q⟩ := h
  obtain ⟨as, r1⟩ := Dp.reads I d x v hd rx
  obtain ⟨bs, r2⟩ := Dp.reads I e y u he ry
  exact SeqAt.compareEq_reads r1 r2 sd se (by omega) ⟨.bl _, H, I, rfl, q⟩
theorem op_neN (hu : X.A.units + 64 < cLine) : OpR X (compareOp .NotEq) (rEqN X.K true) := by
  intro pins s σ H x y v u Q I rx ry h
  obtain ⟨d, e, hd, he, sd, se, hm, q⟩ := h
  obtain ⟨as, r1⟩ := Dp.reads I d x v hd rx
  obtain ⟨bs, r2⟩ := Dp.reads I e y u he ry
  exact SeqAt.compareNe_reads r1 r2 sd se (by omega) ⟨.bl _, H, I, rfl, q⟩
theorem eqOk_use {S : Sr} {Z ι : List Addr} {H : Hp} {ah : List AO} {a b : D} {x y : V} (hH : RH S Z ι H ah) (ra : RV S.K Z ι H a x) (rb : RV S.K Z ι H b y) (h : eqOk ah a b = true) :
    Dp S.K H x (look ah a).py ∧ Dp S.K H y (look ah b).py ∧ (look ah a).py.canLay0 = true ∧ (look ah b).py.canLay0 = true ∧ min (look ah a).py.depth (look ah b).py.depth ≤ 64 := by
  unfold eqOk at h
  simp only [Bool.and_eq_true, decide_eq_true_eq] at h
  obtain ⟨⟨h1, h2⟩, h3⟩ := h
  have p := look_dp hH ra h1
  have q := look_dp hH rb h2
  exact ⟨p.1, q.1, p.2, q.2, by rw [D.dep_py _ h1, D.dep_py _ h2]; exact h3⟩
theorem sim_eq : OpSim X (rEqN X.K false) dEq := by
  intro W Z ι H σ ah a b x y Q hH ra rb h
  unfold dEq at h
  split at h
  · rename_i hk
    obtain ⟨h1, h2, h3, h4, h5⟩ := eqOk_use hH ra rb hk
    exact ⟨_, _, h1, h2, h3, h4, h5, by rw [if_neg Bool.false_ne_true, D.eq_py]; exact h.now hH _ (.bl _)⟩
  · exact h.elim
theorem sim_ne : OpSim X (rEqN X.K true) dNe := by
  intro W Z ι H σ ah a b x y Q hH ra rb h
  unfold dNe at h
  split at h
  · rename_i hk
    obtain ⟨h1, h2, h3, h4, h5⟩ := eqOk_use hH ra rb hk
    exact ⟨_, _, h1, h2, h3, h4, h5, by rw [if_pos rfl, D.eq_py]; exact h.now hH _ (.bl _)⟩
  · exact h.elim
/-- room for comparing -/
abbrev Rm (X : Cx) : Prop := X.A.units + 130 < cLine
theorem de_eq (hu : Rm X) (h1 : DE X W e1 f) (h2 : DE X W e2 g) : DE X W (.Compare e1 [.Eq] [e2] pos) (cOp dEq f g) := de_cmp (op_eqN (by omega)) sim_eq h1 h2 (nomark _)
theorem de_ne (hu : Rm X) (h1 : DE X W e1 f) (h2 : DE X W e2 g) : DE X W (.Compare e1 [.NotEq] [e2] pos) (cOp dNe f g) := de_cmp (op_neN (by omega)) sim_ne h1 h2 (nomark _)
theorem dt_eq (hu : Rm X) (h1 : DE X W e1 f) (h2 : DE X W e2 g) : DT X W (.Compare e1 [.Eq] [e2] pos) (cOp dEq f g) := dt_cmp (op_eqN (by omega)) sim_eq h1 h2 (nomark _)
theorem dt_ne (hu : Rm X) (h1 : DE X W e1 f) (h2 : DE X W e2 g) : DT X W (.Compare e1 [.NotEq] [e2] pos) (cOp dNe f g) := dt_cmp (op_neN (by omega)) sim_ne h1 h2 (nomark _)
end
end Qd

set_option Elab.async false
set_option linter.all false
set_option maxRecDepth 100000
set_option maxHeartbeats 2000000
/-! QCmp: order, in, is, and, or, not, if else, chains. -/
namespace Qd
open PySem PySem.Spec L2

mutual
def D.alk : D → D → Bool
  | .non, .non => true
  | .bl _, .bl _ => true
  | .int _, .int _ => true
  | .str _, .str _ => true
  | .lst xs, .lst ys => D.alks xs ys
  | .tup xs, .tup ys => D.alks xs ys
  | _, _ => false
def D.alks : List D → List D → Bool
  | x :: xs, y :: ys => D.alk x y && D.alks xs ys
  | _, _ => true
end
mutual
def D.lt : D → D → Bool
  | .bl a, .bl b => !a && b
  | .int i, .int j => decide (i < j)
  | .str x, .str y => decide (x.cps.toList < y.cps.toList)
  | .lst xs, .lst ys => D.lts xs ys
  | .tup xs, .tup ys => D.lts xs ys
  | _, _ => false
def D.lts : List D → List D → Bool
  | x :: xs, y :: ys => if D.eq x y = true then D.lts xs ys else D.lt x y
  | [], _ :: _ => true
  | _, [] => false
end
mutual
theorem D.alk_py : ∀ d e : D, d.nr = true → e.nr = true → D.alk d e = true → PySem.W.alike d.py e.py = true
  | .lst xs, .lst ys, h1, h2, h => by
    rw [D.py, D.py, PySem.W.alike]
    exact D.alks_py xs ys (by simpa [D.nr] using h1) (by simpa [D.nr] using h2) (by simpa [D.alk] using h)
  | .tup xs, .tup ys, h1, h2, h => by
    rw [D.py, D.py, PySem.W.alike]
    exact D.alks_py xs ys (by simpa [D.nr] using h1) (by simpa [D.nr] using h2) (by simpa [D.alk] using h)
  | .non, e, _, _, h => by cases e <;> simp [D.alk, D.py, PySem.W.alike] at *
  | .bl b, e, _, _, h => by cases e <;> simp [D.alk, D.py, PySem.W.alike] at *
  | .int b, e, _, _, h => by cases e <;> simp [D.alk, D.py, PySem.W.alike] at *
  | .str b, e, _, _, h => by cases e <;> simp [D.alk, D.py, PySem.W.alike] at *
  | .ref b, e, h1, _, h => by simp [D.nr] at h1
  | .scr b, e, h1, _, h => by simp [D.nr] at h1
  | .lst xs, .non, _, _, h => by simp [D.alk] at h
  | .lst xs, .bl _, _, _, h => by simp [D.alk] at h
  | .lst xs, .int _, _, _, h => by simp [D.alk] at h
  | .lst xs, .str _, _, _, h => by simp [D.alk] at h
  | .lst xs, .tup _, _, _, h => by simp [D.alk] at h
  | .lst xs, .ref _, _, _, h => by simp [D.alk] at h
  | .lst xs, .scr _, _, _, h => by simp [D.alk] at h
  | .tup xs, .non, _, _, h => by simp [D.alk] at h
  | .tup xs, .bl _, _, _, h => by simp [D.alk] at h
  | .tup xs, .int _, _, _, h => by simp [D.alk] at h
  | .tup xs, .str _, _, _, h => by simp [D.alk] at h
  | .tup xs, .lst _, _, _, h => by simp [D.alk] at h
  | .tup xs, .ref _, _, _, h => by simp [D.alk] at h
  | .tup xs, .scr _, _, _, h => by simp [D.alk] at h
theorem D.alks_py : ∀ ds es : List D, D.nrs ds = true → D.nrs es = true → D.alks ds es = true → PySem.W.alikeAll (D.pys ds) (D.pys es) = true
  | [], es, _, _, _ => by simp [D.pys, PySem.W.alikeAll]
  | _ :: _, [], _, _, _ => by simp [D.pys, PySem.W.alikeAll]
  | d :: ds, e :: es, h1, h2, h => by
    rw [D.nrs, Bool.and_eq_true] at h1 h2
    rw [D.alks, Bool.and_eq_true] at h
    rw [D.pys, D.pys, PySem.W.alikeAll, D.alk_py d e h1.1 h2.1 h.1, D.alks_py ds es h1.2 h2.2 h.2]; rfl
end
mutual
theorem D.lt_py : ∀ d e : D, d.nr = true → e.nr = true → D.alk d e = true → PySem.W.dataLt d.py e.py = D.lt d e
  | .lst xs, .lst ys, h1, h2, h => by
    rw [D.py, D.py, PySem.W.dataLt_list, D.lt]
    exact D.lts_py xs ys (by simpa [D.nr] using h1) (by simpa [D.nr] using h2) (by simpa [D.alk] using h)
  | .tup xs, .tup ys, h1, h2, h => by
    rw [D.py, D.py, PySem.W.dataLt_tuple, D.lt]
    exact D.lts_py xs ys (by simpa [D.nr] using h1) (by simpa [D.nr] using h2) (by simpa [D.alk] using h)
  | .non, e, _, _, h => by
    cases e with
    | non =>
      have e : D.lt .non .non = false := by simp [D.lt]
      rw [D.py, e]; exact PyProof.Rows.lex_irrefl _
    | _ => simp [D.alk] at h
  | .bl b, e, _, _, h => by
    cases e with
    | bl c => rw [D.py, D.py, PySem.W.dataLt_bool, D.lt]; cases b <;> cases c <;> rfl
    | _ => simp [D.alk] at h
  | .int b, e, _, _, h => by
    cases e with
    | int c => rw [D.py, D.py, PySem.W.dataLt_int, D.lt]
    | _ => simp [D.alk] at h
  | .str b, e, _, _, h => by
    cases e with
    | str c => rw [D.py, D.py, PySem.W.dataLt_str, D.lt]
    | _ => simp [D.alk] at h
  | .ref b, e, h1, _, h => by simp [D.nr] at h1
  | .scr b, e, h1, _, h => by simp [D.nr] at h1
  | .lst xs, .non, _, _, h => by simp [D.alk] at h
  | .lst xs, .bl _, _, _, h => by simp [D.alk] at h
  | .lst xs, .int _, _, _, h => by simp [D.alk] at h
  | .lst xs, .str _, _, _, h => by simp [D.alk] at h
  | .lst xs, .tup _, _, _, h => by simp [D.alk] at h
  | .lst xs, .ref _, _, _, h => by simp [D.alk] at h
  | .lst xs, .scr _, _, _, h => by simp [D.alk] at h
  | .tup xs, .non, _, _, h => by simp [D.alk] at h
  | .tup xs, .bl _, _, _, h => by simp [D.alk] at h
  | .tup xs, .int _, _, _, h => by simp [D.alk] at h
  | .tup xs, .str _, _, _, h => by simp [D.alk] at h
  | .tup xs, .lst _, _, _, h => by simp [D.alk] at h
  | .tup xs, .ref _, _, _, h => by simp [D.alk] at h
  | .tup xs, .scr _, _, _, h => by simp [D.alk] at h
theorem D.lts_py : ∀ ds es : List D, D.nrs ds = true → D.nrs es = true → D.alks ds es = true → PyProof.Rows.lexLt PyProof.Rows.itemOrd (PySem.W.keyToksAll (D.pys ds)) (PySem.W.keyToksAll (D.pys es)) = D.lts ds es
  | [], [], _, _, _ => by rw [D.pys, D.lts]; exact PyProof.Rows.lex_irrefl _
  | [], e :: es, _, _, _ => by
    rw [D.pys, D.pys, D.lts, PySem.W.toks_all_cons]
    simp only [PySem.W.keyToksAll]
    rw [PyProof.Rows.lex_diff (O := PyProof.Rows.itemOrd) (by simp)]
    simp [PyProof.Rows.itemLt]
  | d :: ds, [], _, _, _ => by
    rw [D.pys, D.pys, D.lts, PySem.W.toks_all_cons]
    simp only [PySem.W.keyToksAll]
    rw [PyProof.Rows.lex_diff (O := PyProof.Rows.itemOrd) (by simp)]
    simp [PyProof.Rows.itemLt]
  | d :: ds, e :: es, h1, h2, h => by
    rw [D.nrs, Bool.and_eq_true] at h1 h2
    rw [D.alks, Bool.and_eq_true] at h
    rw [D.pys, D.pys, PySem.W.dataLt_cons (D.alk_py d e h1.1 h2.1 h.1), D.lts_py ds es h1.2 h2.2 h.2, D.lt_py d e h1.1 h2.1 h.1, D.eq_py, D.lts]
end

/-! ### < > <= >= -/
def isNon : D → Bool
  | .non => true
  | _ => false
def ltOk (ah : List AO) (a b : D) : Bool := (look ah a).nr && (look ah b).nr && D.alk (look ah a) (look ah b) && !isNon (look ah a) && decide (min (look ah a).dep (look ah b).dep ≤ 64)
def dLt : DOp := fun a b ah => if ltOk ah a b = true then .ok (.bl (D.lt (look ah a) (look ah b))) ah else .stuck
def dGt : DOp := fun a b ah => if ltOk ah b a = true then .ok (.bl (D.lt (look ah b) (look ah a))) ah else .stuck
def dLe : DOp := fun a b ah => if ltOk ah b a = true then .ok (.bl (!D.lt (look ah b) (look ah a))) ah else .stuck
def dGe : DOp := fun a b ah => if ltOk ah a b = true then .ok (.bl (!D.lt (look ah a) (look ah b))) ah else .stuck
def rOrd (K : PySem.W.Frag) (p : PyData → PyData → Bool) : R2 := fun x y H Q => ∃ d e, Dp K H x d ∧ Dp K H y e ∧ PySem.W.alike d e = true ∧ d ≠ .none ∧ min d.depth e.depth ≤ 64 ∧ Q (.bl (p d e)) H
section
variable {X : Cx} {W : WX} {pos : Pos} {e e1 e2 e3 : Expr} {f g k : SE}
theorem op_ltN (hu : Rm X) : OpR X (compareOp .Lt) (rOrd X.K fun d e => PySem.W.dataLt d e) := by
  intro pins s σ H x y v u Q I rx ry h
  obtain ⟨d, e, hd, he, al, nn, hm, q⟩ := h
  obtain ⟨as, r1⟩ := Dp.reads I d x v hd rx
  obtain ⟨bs, r2⟩ := Dp.reads I e y u he ry
  exact PySem.W.lt_data r1 r2 al nn (by omega) ⟨.bl _, H, I, rfl, q⟩
theorem op_gtN (hu : Rm X) : OpR X (compareOp .Gt) (rOrd X.K fun d e => PySem.W.dataLt e d) := by
  intro pins s σ H x y v u Q I rx ry h
  obtain ⟨d, e, hd, he, al, nn, hm, q⟩ := h
  obtain ⟨as, r1⟩ := Dp.reads I d x v hd rx
  obtain ⟨bs, r2⟩ := Dp.reads I e y u he ry
  exact PySem.W.gt_data r1 r2 al nn (by omega) ⟨.bl _, H, I, rfl, q⟩
theorem op_leN (hu : Rm X) : OpR X (compareOp .LtE) (rOrd X.K fun d e => !PySem.W.dataLt e d) := by
  intro pins s σ H x y v u Q I rx ry h
  obtain ⟨d, e, hd, he, al, nn, hm, q⟩ := h
  obtain ⟨as, r1⟩ := Dp.reads I d x v hd rx
  obtain ⟨bs, r2⟩ := Dp.reads I e y u he ry
  exact PySem.W.le_data r1 r2 al nn (by omega) ⟨.bl _, H, I, rfl, q⟩
theorem op_geN (hu : Rm X) : OpR X (compareOp .GtE) (rOrd X.K fun d e => !PySem.W.dataLt d e) := by
  intro pins s σ H x y v u Q I rx ry h
  obtain ⟨d, e, hd, he, al, nn, hm, q⟩ := h
  obtain ⟨as, r1⟩ := Dp.reads I d x v hd rx
  obtain ⟨bs, r2⟩ := Dp.reads I e y u he ry
  exact PySem.W.ge_data r1 r2 al nn (by omega) ⟨.bl _, H, I, rfl, q⟩
theorem isNon_py {d : D} (h : isNon d = false) (hn : d.nr = true) : d.py ≠ .none := by
  cases d <;> first | (simp [isNon] at h; done) | (simp [D.nr] at hn; done) | simp [D.py]
theorem alk_non {d e : D} (h : D.alk d e = true) (hd : isNon d = false) : isNon e = false := by
  cases d <;> cases e <;> first | rfl | (simp [D.alk] at h; done) | (simp [isNon] at hd; done)
mutual
theorem D.eq_comm : ∀ d e : D, D.eq d e = D.eq e d
  | .lst xs, .lst ys => by rw [D.eq, D.eq, D.eqs_comm xs ys]
  | .tup xs, .tup ys => by rw [D.eq, D.eq, D.eqs_comm xs ys]
  | .non, e => by cases e <;> simp [D.eq]
  | .bl b, e => by cases e <;> simp [D.eq] <;> exact Bool.beq_comm
  | .int b, e => by cases e <;> simp [D.eq] <;> exact Bool.beq_comm
  | .str b, e => by
    cases e <;> simp [D.eq]
    exact PySem.W.beq_swap _ _
  | .ref b, e => by cases e <;> simp [D.eq]
  | .scr b, e => by cases e <;> simp [D.eq]
  | .lst xs, .non => by simp [D.eq]
  | .lst xs, .bl _ => by simp [D.eq]
  | .lst xs, .int _ => by simp [D.eq]
  | .lst xs, .str _ => by simp [D.eq]
  | .lst xs, .tup _ => by simp [D.eq]
  | .lst xs, .ref _ => by simp [D.eq]
  | .lst xs, .scr _ => by simp [D.eq]
  | .tup xs, .non => by simp [D.eq]
  | .tup xs, .bl _ => by simp [D.eq]
  | .tup xs, .int _ => by simp [D.eq]
  | .tup xs, .str _ => by simp [D.eq]
  | .tup xs, .lst _ => by simp [D.eq]
  | .tup xs, .ref _ => by simp [D.eq]
  | .tup xs, .scr _ => by simp [D.eq]
theorem D.eqs_comm : ∀ ds es : List D, D.eqs ds es = D.eqs es ds
  | [], [] => rfl
  | [], _ :: _ => by simp [D.eqs]
  | _ :: _, [] => by simp [D.eqs]
  | d :: ds, e :: es => by rw [D.eqs, D.eqs, D.eq_comm d e, D.eqs_comm ds es]
end
mutual
theorem D.alk_comm : ∀ d e : D, D.alk d e = D.alk e d
  | .lst xs, .lst ys => by rw [D.alk, D.alk, D.alks_comm xs ys]
  | .tup xs, .tup ys => by rw [D.alk, D.alk, D.alks_comm xs ys]
  | .non, e => by cases e <;> simp [D.alk]
  | .bl b, e => by cases e <;> simp [D.alk]
  | .int b, e => by cases e <;> simp [D.alk]
  | .str b, e => by cases e <;> simp [D.alk]
  | .ref b, e => by cases e <;> simp [D.alk]
  | .scr b, e => by cases e <;> simp [D.alk]
  | .lst xs, .non => by simp [D.alk]
  | .lst xs, .bl _ => by simp [D.alk]
  | .lst xs, .int _ => by simp [D.alk]
  | .lst xs, .str _ => by simp [D.alk]
  | .lst xs, .tup _ => by simp [D.alk]
  | .lst xs, .ref _ => by simp [D.alk]
  | .lst xs, .scr _ => by simp [D.alk]
  | .tup xs, .non => by simp [D.alk]
  | .tup xs, .bl _ => by simp [D.alk]
  | .tup xs, .int _ => by simp [D.alk]
  | .tup xs, .str _ => by simp [D.alk]
  | .tup xs, .lst _ => by simp [D.alk]
  | .tup xs, .ref _ => by simp [D.alk]
  | .tup xs, .scr _ => by simp [D.alk]
theorem D.alks_comm : ∀ ds es : List D, D.alks ds es = D.alks es ds
  | [], [] => rfl
  | [], _ :: _ => by simp [D.alks]
  | _ :: _, [] => by simp [D.alks]
  | d :: ds, e :: es => by rw [D.alks, D.alks, D.alk_comm d e, D.alks_comm ds es]
end
theorem ltOk_use {S : Sr} {Z ι : List Addr} {H : Hp} {ah : List AO} {a b : D} {x y : V} (hH : RH S Z ι H ah) (ra : RV S.K Z ι H a x) (rb : RV S.K Z ι H b y) (h : ltOk ah a b = true) :
    Dp S.K H x (look ah a).py ∧ Dp S.K H y (look ah b).py ∧ PySem.W.alike (look ah a).py (look ah b).py = true ∧ (look ah a).py ≠ .none ∧ min (look ah a).py.depth (look ah b).py.depth ≤ 64 ∧
      PySem.W.dataLt (look ah a).py (look ah b).py = D.lt (look ah a) (look ah b) ∧ PySem.W.alike (look ah b).py (look ah a).py = true ∧ (look ah b).py ≠ .none ∧ min (look ah b).py.depth (look ah a).py.depth ≤ 64 := by
  unfold ltOk at h
  simp only [Bool.and_eq_true, decide_eq_true_eq, Bool.not_eq_true'] at h
  obtain ⟨⟨⟨⟨h1, h2⟩, h3⟩, h4⟩, h5⟩ := h
  have h3' := h3
  rw [D.alk_comm] at h3'
  have h6 : isNon (look ah b) = false := alk_non h3 h4
  refine ⟨(look_dp hH ra h1).1, (look_dp hH rb h2).1, D.alk_py _ _ h1 h2 h3, isNon_py h4 h1, by rw [D.dep_py _ h1, D.dep_py _ h2]; exact h5, D.lt_py _ _ h1 h2 h3, D.alk_py _ _ h2 h1 h3', isNon_py h6 h2, by rw [D.dep_py _ h1, D.dep_py _ h2]; omega⟩
theorem sim_lt : OpSim X (rOrd X.K fun d e => PySem.W.dataLt d e) dLt := by
  intro W Z ι H σ ah a b x y Q hH ra rb h
  unfold dLt at h
  split at h
  · rename_i hk
    obtain ⟨h1, h2, h3, h4, h5, h6, _⟩ := ltOk_use hH ra rb hk
    exact ⟨_, _, h1, h2, h3, h4, h5, by show Q (.bl (PySem.W.dataLt _ _)) H; rw [h6]; exact h.now hH _ (.bl _)⟩
  · exact h.elim
theorem sim_gt : OpSim X (rOrd X.K fun d e => PySem.W.dataLt e d) dGt := by
  intro W Z ι H σ ah a b x y Q hH ra rb h
  unfold dGt at h
  split at h
  · rename_i hk
    obtain ⟨h1, h2, _, _, _, h6, h3, h4, h5⟩ := ltOk_use hH rb ra hk
    exact ⟨_, _, h2, h1, h3, h4, h5, by show Q (.bl (PySem.W.dataLt _ _)) H; rw [h6]; exact h.now hH _ (.bl _)⟩
  · exact h.elim
theorem sim_le : OpSim X (rOrd X.K fun d e => !PySem.W.dataLt e d) dLe := by
  intro W Z ι H σ ah a b x y Q hH ra rb h
  unfold dLe at h
  split at h
  · rename_i hk
    obtain ⟨h1, h2, _, _, _, h6, h3, h4, h5⟩ := ltOk_use hH rb ra hk
    exact ⟨_, _, h2, h1, h3, h4, h5, by show Q (.bl (!PySem.W.dataLt _ _)) H; rw [h6]; exact h.now hH _ (.bl _)⟩
  · exact h.elim
theorem sim_ge : OpSim X (rOrd X.K fun d e => !PySem.W.dataLt d e) dGe := by
  intro W Z ι H σ ah a b x y Q hH ra rb h
  unfold dGe at h
  split at h
  · rename_i hk
    obtain ⟨h1, h2, h3, h4, h5, h6, _⟩ := ltOk_use hH ra rb hk
    exact ⟨_, _, h1, h2, h3, h4, h5, by show Q (.bl (!PySem.W.dataLt _ _)) H; rw [h6]; exact h.now hH _ (.bl _)⟩
  · exact h.elim
theorem de_lt (hu : Rm X) (h1 : DE X W e1 f) (h2 : DE X W e2 g) : DE X W (.Compare e1 [.Lt] [e2] pos) (cOp dLt f g) := de_cmp (op_ltN hu) sim_lt h1 h2 (nomark _)
theorem de_gt (hu : Rm X) (h1 : DE X W e1 f) (h2 : DE X W e2 g) : DE X W (.Compare e1 [.Gt] [e2] pos) (cOp dGt f g) := de_cmp (op_gtN hu) sim_gt h1 h2 (nomark _)
theorem de_le (hu : Rm X) (h1 : DE X W e1 f) (h2 : DE X W e2 g) : DE X W (.Compare e1 [.LtE] [e2] pos) (cOp dLe f g) := de_cmp (op_leN hu) sim_le h1 h2 (nomark _)
theorem de_ge (hu : Rm X) (h1 : DE X W e1 f) (h2 : DE X W e2 g) : DE X W (.Compare e1 [.GtE] [e2] pos) (cOp dGe f g) := de_cmp (op_geN hu) sim_ge h1 h2 (nomark _)
theorem dt_lt (hu : Rm X) (h1 : DE X W e1 f) (h2 : DE X W e2 g) : DT X W (.Compare e1 [.Lt] [e2] pos) (cOp dLt f g) := dt_cmp (op_ltN hu) sim_lt h1 h2 (nomark _)
theorem dt_gt (hu : Rm X) (h1 : DE X W e1 f) (h2 : DE X W e2 g) : DT X W (.Compare e1 [.Gt] [e2] pos) (cOp dGt f g) := dt_cmp (op_gtN hu) sim_gt h1 h2 (nomark _)
theorem dt_le (hu : Rm X) (h1 : DE X W e1 f) (h2 : DE X W e2 g) : DT X W (.Compare e1 [.LtE] [e2] pos) (cOp dLe f g) := dt_cmp (op_leN hu) sim_le h1 h2 (nomark _)
theorem dt_ge (hu : Rm X) (h1 : DE X W e1 f) (h2 : DE X W e2 g) : DT X W (.Compare e1 [.GtE] [e2] pos) (cOp dGe f g) := dt_cmp (op_geN hu) sim_ge h1 h2 (nomark _)

/-! ### in, not in -/
def strIn (x y : Str) : Bool := !(Builtin.Str.occurrences y x 0 y.length 1).isEmpty
def inOk (ah : List AO) (a : D) (ds : List D) : Bool := (look ah a).nr && D.nrs ds && decide (min (D.deps ds) (look ah a).dep ≤ 64)
def dIn (neg : Bool) : DOp := fun a b ah => match look ah b with
  | .lst ds => if inOk ah a ds = true then .ok (.bl (neg ^^ ds.any fun z => D.eq z (look ah a))) ah else .stuck
  | .tup ds => if inOk ah a ds = true then .ok (.bl (neg ^^ ds.any fun z => D.eq z (look ah a))) ah else .stuck
  | .str y => match a with
    | .str x => .ok (.bl (neg ^^ strIn x y)) ah
    | _ => .stuck
  | _ => .stuck
def rInN (K : PySem.W.Frag) (neg : Bool) : R2 := fun x y H Q => (∃ d ds, Dp K H x d ∧ (Dp K H y (.list ds) ∨ Dp K H y (.tuple ds)) ∧ PyData.canLayAll0 ds = true ∧ d.canLay0 = true ∧ min (PyData.depthAll ds) d.depth ≤ 64 ∧ Q (.bl (neg ^^ ds.any fun z => PyData.eqv z d)) H) ∨
  (∃ i j, x = .str i ∧ y = .str j ∧ Q (.bl (neg ^^ strIn i j)) H)
theorem op_inN (hu : Rm X) : OpR X (compareOp .In) (rInN X.K false) := by
  intro pins s σ H x y v u Q I rx ry h
  rcases h with ⟨d, ds, hd, he, l1, l2, hm, q⟩ | ⟨i, j, rfl, rfl, q⟩
  · obtain ⟨as, r1⟩ := Dp.reads I d x v hd rx
    rw [Bool.false_xor] at q
    rcases he with he | he
    · obtain ⟨bs, r2⟩ := Dp.reads I _ y u he ry
      exact SeqAt.in_list_reads r2 r1 (by simpa [PyData.canLay0] using l1) l2 (by omega) ⟨.bl _, H, I, rfl, q⟩
    · obtain ⟨bs, r2⟩ := Dp.reads I _ y u he ry
      exact SeqAt.in_tuple_reads r2 r1 (by simpa [PyData.canLay0] using l1) l2 (by omega) ⟨.bl _, H, I, rfl, q⟩
  · rw [Bool.false_xor] at q
    exact op_in_str pins s σ H _ _ v u Q I rx ry ⟨i, j, rfl, rfl, q⟩
theorem op_notInN (hu : Rm X) : OpR X (compareOp .NotIn) (rInN X.K true) := by
  intro pins s σ H x y v u Q I rx ry h
  rcases h with ⟨d, ds, hd, he, l1, l2, hm, q⟩ | ⟨i, j, rfl, rfl, q⟩
  · obtain ⟨as, r1⟩ := Dp.reads I d x v hd rx
    rw [Bool.true_xor] at q
    rcases he with he | he
    · obtain ⟨bs, r2⟩ := Dp.reads I _ y u he ry
      exact SeqAt.notIn_list_reads r2 r1 (by simpa [PyData.canLay0] using l1) l2 (by omega) ⟨.bl _, H, I, rfl, q⟩
    · obtain ⟨bs, r2⟩ := Dp.reads I _ y u he ry
      exact SeqAt.notIn_tuple_reads r2 r1 (by simpa [PyData.canLay0] using l1) l2 (by omega) ⟨.bl _, H, I, rfl, q⟩
  · rw [Bool.true_xor] at q
    exact op_notIn_str pins s σ H _ _ v u Q I rx ry ⟨i, j, rfl, rfl, q⟩
theorem any_eq_py (ds : List D) (d : D) : (D.pys ds).any (fun z => PyData.eqv z d.py) = ds.any fun z => D.eq z d := by
  rw [D.pys_map, List.any_map]
  congr 1
  funext z
  exact D.eq_py z d
theorem sim_in (neg : Bool) : OpSim X (rInN X.K neg) (dIn neg) := by
  intro W Z ι H σ ah a b x y Q hH ra rb h
  unfold dIn at h
  split at h
  · rename_i ds eb
    split at h
    · rename_i hk
      unfold inOk at hk
      simp only [Bool.and_eq_true, decide_eq_true_eq] at hk
      obtain ⟨⟨h1, h2⟩, h3⟩ := hk
      have p := look_dp hH ra h1
      have hb : (look ah b).nr = true := by rw [eb]; simpa [D.nr] using h2
      have q := look_dp hH rb hb
      rw [eb, D.py] at q
      refine .inl ⟨_, _, p.1, .inl q.1, by simpa [PyData.canLay0] using q.2, p.2, by rw [D.deps_py _ h2, D.dep_py _ h1]; exact h3, ?_⟩
      rw [any_eq_py]
      exact h.now hH _ (.bl _)
    · exact h.elim
  · rename_i ds eb
    split at h
    · rename_i hk
      unfold inOk at hk
      simp only [Bool.and_eq_true, decide_eq_true_eq] at hk
      obtain ⟨⟨h1, h2⟩, h3⟩ := hk
      have p := look_dp hH ra h1
      have hb : (look ah b).nr = true := by rw [eb]; simpa [D.nr] using h2
      have q := look_dp hH rb hb
      rw [eb, D.py] at q
      refine .inl ⟨_, _, p.1, .inr q.1, by simpa [PyData.canLay0] using q.2, p.2, by rw [D.deps_py _ h2, D.dep_py _ h1]; exact h3, ?_⟩
      rw [any_eq_py]
      exact h.now hH _ (.bl _)
    · exact h.elim
  · rename_i y eb
    obtain ⟨rfl, _⟩ := look_str rb eb
    split at h
    · cases ra
      exact .inr ⟨_, _, rfl, rfl, h.now hH _ (.bl _)⟩
    · exact h.elim
  · exact h.elim
theorem de_in (hu : Rm X) (h1 : DE X W e1 f) (h2 : DE X W e2 g) (hm : behindInMarks .In e2 = false := by rfl) : DE X W (.Compare e1 [.In] [e2] pos) (cOp (dIn false) f g) := de_cmp (op_inN hu) (sim_in false) h1 h2 hm
theorem de_notIn (hu : Rm X) (h1 : DE X W e1 f) (h2 : DE X W e2 g) (hm : behindInMarks .NotIn e2 = false := by rfl) : DE X W (.Compare e1 [.NotIn] [e2] pos) (cOp (dIn true) f g) := de_cmp (op_notInN hu) (sim_in true) h1 h2 hm
theorem dt_in (hu : Rm X) (h1 : DE X W e1 f) (h2 : DE X W e2 g) (hm : behindInMarks .In e2 = false := by rfl) : DT X W (.Compare e1 [.In] [e2] pos) (cOp (dIn false) f g) := dt_cmp (op_inN hu) (sim_in false) h1 h2 hm
theorem dt_notIn (hu : Rm X) (h1 : DE X W e1 f) (h2 : DE X W e2 g) (hm : behindInMarks .NotIn e2 = false := by rfl) : DT X W (.Compare e1 [.NotIn] [e2] pos) (cOp (dIn true) f g) := dt_cmp (op_notInN hu) (sim_in true) h1 h2 hm

/-! ### is -/
def dIsN (neg : Bool) : DOp := fun a b ah => if isNon b = true then .ok (.bl (neg ^^ isNon a)) ah else .stuck
theorem isNon_rv {K Z ι H} {d : D} {v : V} (r : RV K Z ι H d v) : decide (v = V.non) = isNon d := by
  cases r <;> simp [isNon]
theorem sim_isN : OpSim X (fun x y H Q => y = .non ∧ Q (.bl (decide (x = .non))) H) (dIsN false) := by
  intro W Z ι H σ ah a b x y Q hH ra rb h
  unfold dIsN at h
  split at h
  · rename_i hk
    cases rb <;> simp [isNon] at hk
    refine ⟨rfl, ?_⟩
    rw [isNon_rv ra]
    rw [Bool.false_xor] at h
    exact h.now hH _ (.bl _)
  · exact h.elim
theorem sim_notN : OpSim X (fun x y H Q => y = .non ∧ Q (.bl (!decide (x = .non))) H) (dIsN true) := by
  intro W Z ι H σ ah a b x y Q hH ra rb h
  unfold dIsN at h
  split at h
  · rename_i hk
    cases rb <;> simp [isNon] at hk
    refine ⟨rfl, ?_⟩
    rw [isNon_rv ra]
    rw [Bool.true_xor] at h
    exact h.now hH _ (.bl _)
  · exact h.elim
/-- is True, is False: of a truth -/
def dIsB (neg : Bool) : DOp := fun a b ah => match a, b with
  | .bl x, .bl y => .ok (.bl (neg ^^ decide (x = y))) ah
  | _, _ => .stuck
theorem sim_isB : OpSim X (fun x y H Q => ∃ a b, x = .bl a ∧ y = .bl b ∧ Q (.bl (decide (a = b))) H) (dIsB false) := by
  intro W Z ι H σ ah a b x y Q hH ra rb h
  unfold dIsB at h
  split at h
  · cases ra; cases rb
    rw [Bool.false_xor] at h
    exact ⟨_, _, rfl, rfl, h.now hH _ (.bl _)⟩
  · exact h.elim
theorem sim_notB : OpSim X (fun x y H Q => ∃ a b, x = .bl a ∧ y = .bl b ∧ Q (.bl (!decide (a = b))) H) (dIsB true) := by
  intro W Z ι H σ ah a b x y Q hH ra rb h
  unfold dIsB at h
  split at h
  · cases ra; cases rb
    rw [Bool.true_xor] at h
    exact ⟨_, _, rfl, rfl, h.now hH _ (.bl _)⟩
  · exact h.elim
theorem de_isN (h1 : DE X W e1 f) (h2 : DE X W e2 g) : DE X W (.Compare e1 [.Is] [e2] pos) (cOp (dIsN false) f g) := de_cmp op_isN sim_isN h1 h2 (nomark _)
theorem de_notN (h1 : DE X W e1 f) (h2 : DE X W e2 g) : DE X W (.Compare e1 [.IsNot] [e2] pos) (cOp (dIsN true) f g) := de_cmp op_notN sim_notN h1 h2 (nomark _)
theorem dt_isN (h1 : DE X W e1 f) (h2 : DE X W e2 g) : DT X W (.Compare e1 [.Is] [e2] pos) (cOp (dIsN false) f g) := dt_cmp op_isN sim_isN h1 h2 (nomark _)
theorem dt_notN (h1 : DE X W e1 f) (h2 : DE X W e2 g) : DT X W (.Compare e1 [.IsNot] [e2] pos) (cOp (dIsN true) f g) := dt_cmp op_notN sim_notN h1 h2 (nomark _)
theorem de_isB (h1 : DE X W e1 f) (h2 : DE X W e2 g) : DE X W (.Compare e1 [.Is] [e2] pos) (cOp (dIsB false) f g) := de_cmp op_is_bl sim_isB h1 h2 (nomark _)
theorem de_notB (h1 : DE X W e1 f) (h2 : DE X W e2 g) : DE X W (.Compare e1 [.IsNot] [e2] pos) (cOp (dIsB true) f g) := de_cmp op_isnot_bl sim_notB h1 h2 (nomark _)
theorem dt_isB (h1 : DE X W e1 f) (h2 : DE X W e2 g) : DT X W (.Compare e1 [.Is] [e2] pos) (cOp (dIsB false) f g) := dt_cmp op_is_bl sim_isB h1 h2 (nomark _)
theorem dt_notB (h1 : DE X W e1 f) (h2 : DE X W e2 g) : DT X W (.Compare e1 [.IsNot] [e2] pos) (cOp (dIsB true) f g) := dt_cmp op_isnot_bl sim_notB h1 h2 (nomark _)
end
end Qd

set_option Elab.async false
set_option linter.all false
set_option maxRecDepth 100000
set_option maxHeartbeats 2000000
/-! QSub: and, or, not, if else, chains; subscripts, slices. -/
namespace Qd
open PySem PySem.Spec L2
section
variable {X : Cx} {W : WX} {pos : Pos} {e e1 e2 e3 : Expr} {f g k : SE}
def onB (o : D) (t u : R D) : R D := match o with
  | .bl true => t
  | .bl false => u
  | _ => .stuck
@[simp] theorem onB_true (t u : R D) : onB (.bl true) t u = t := rfl
@[simp] theorem onB_false (t u : R D) : onB (.bl false) t u = u := rfl
def cAnd (f g : SE) : SE := fun ρ ah => (f ρ ah).bind fun d ah1 => onB d (g ρ ah1) (.ok (.bl false) ah1)
def cOr (f g : SE) : SE := fun ρ ah => (f ρ ah).bind fun d ah1 => onB d (.ok (.bl true) ah1) (g ρ ah1)
def cNot (f : SE) : SE := fun ρ ah => (f ρ ah).bind fun d ah1 => onB d (.ok (.bl false) ah1) (.ok (.bl true) ah1)
def cIf (f g k : SE) : SE := fun ρ ah => (f ρ ah).bind fun d ah1 => onB d (g ρ ah1) (k ρ ah1)
theorem onB_cases {P : R D → Prop} {o : D} {t u : R D} (h : P (onB o t u)) (hs : ¬ P .stuck) : (o = .bl true ∧ P t) ∨ (o = .bl false ∧ P u) := by
  cases o with
  | bl b => cases b; exact .inr ⟨rfl, h⟩; exact .inl ⟨rfl, h⟩
  | _ => exact absurd h hs
variable {rest : List Expr} {b : Expr}
theorem de_one {op} (h : DE X W e f) : DE X W (.BoolOp op [e] pos) f := ⟨pe_one h.pe⟩
theorem de_and (h1 : DE X W e f) (h2 : DE X W (.BoolOp .And (b :: rest) pos) g) : DE X W (.BoolOp .And (e :: b :: rest) pos) (cAnd f g) := by
  refine ⟨(pe_and h1.pe h2.pe).weak fun σ H Q h => ?_⟩
  obtain ⟨Z, ι, ρ, ah, hH, hE, h⟩ := h
  refine ⟨Z, ι, ρ, ah, hH, hE, h.bind.mono fun a ah1 ι1 H1 x1 hH1 h v rv => ?_⟩
  rcases onB_cases h (fun z => z) with ⟨rfl, h⟩ | ⟨rfl, h⟩
  · cases rv
    exact ⟨true, rfl, iteT ⟨Z, ι1, ρ, ah1, hH1, hE.ext x1, h⟩⟩
  · cases rv
    exact ⟨false, rfl, iteF (h.now hH1 _ (.bl _))⟩
theorem de_or (h1 : DE X W e f) (h2 : DE X W (.BoolOp .Or (b :: rest) pos) g) : DE X W (.BoolOp .Or (e :: b :: rest) pos) (cOr f g) := by
  refine ⟨(pe_or h1.pe h2.pe).weak fun σ H Q h => ?_⟩
  obtain ⟨Z, ι, ρ, ah, hH, hE, h⟩ := h
  refine ⟨Z, ι, ρ, ah, hH, hE, h.bind.mono fun a ah1 ι1 H1 x1 hH1 h v rv => ?_⟩
  rcases onB_cases h (fun z => z) with ⟨rfl, h⟩ | ⟨rfl, h⟩
  · cases rv
    exact ⟨true, rfl, iteT (h.now hH1 _ (.bl _))⟩
  · cases rv
    exact ⟨false, rfl, iteF ⟨Z, ι1, ρ, ah1, hH1, hE.ext x1, h⟩⟩
theorem de_not (h1 : DE X W e f) : DE X W (.UnaryOp .Not e pos) (cNot f) := by
  refine ⟨(pe_not h1.pe).weak fun σ H Q h => ?_⟩
  obtain ⟨Z, ι, ρ, ah, hH, hE, h⟩ := h
  refine ⟨Z, ι, ρ, ah, hH, hE, h.bind.mono fun a ah1 ι1 H1 x1 hH1 h v rv => ?_⟩
  rcases onB_cases h (fun z => z) with ⟨rfl, h⟩ | ⟨rfl, h⟩
  · cases rv
    exact ⟨true, rfl, h.now hH1 _ (.bl _)⟩
  · cases rv
    exact ⟨false, rfl, h.now hH1 _ (.bl _)⟩
theorem de_ifx (h1 : DT X W e1 f) (h2 : DE X W e2 g) (h3 : DE X W e3 k) : DE X W (.IfExp e1 e2 e3 pos) (cIf f g k) := by
  refine ⟨(pe_ifExp h1.pt h2.pe h3.pe).weak fun σ H Q h => ?_⟩
  obtain ⟨Z, ι, ρ, ah, hH, hE, h⟩ := h
  refine ⟨Z, ι, ρ, ah, hH, hE, h.bind.mono fun a ah1 ι1 H1 x1 hH1 h => ?_⟩
  rcases onB_cases h (fun z => z) with ⟨rfl, h⟩ | ⟨rfl, h⟩
  · exact ⟨true, rfl, iteT ⟨Z, ι1, ρ, ah1, hH1, hE.ext x1, h⟩⟩
  · exact ⟨false, rfl, iteF ⟨Z, ι1, ρ, ah1, hH1, hE.ext x1, h⟩⟩
/-! as tests -/
theorem dt_not (h1 : DT X W e f) : DT X W (.UnaryOp .Not e pos) (cNot f) := by
  refine ⟨(pt_not h1.pt).weak fun σ H Q h => ?_⟩
  obtain ⟨Z, ι, ρ, ah, hH, hE, h⟩ := h
  refine ⟨Z, ι, ρ, ah, hH, hE, h.bind.mono fun a ah1 ι1 H1 x1 hH1 h => ?_⟩
  rcases onB_cases h (fun z => z) with ⟨rfl, h⟩ | ⟨rfl, h⟩
  · obtain ⟨b, e, q⟩ := h.now hH1
    cases e
    exact ⟨true, rfl, q⟩
  · obtain ⟨b, e, q⟩ := h.now hH1
    cases e
    exact ⟨false, rfl, q⟩
theorem dw_and1 (h : DT X W e f) : DW X W (.BoolOp .And [e] pos) f := ⟨pw_and1 h.pt⟩
theorem dw_or1 (h : DT X W e f) : DW X W (.BoolOp .Or [e] pos) f := ⟨pw_or1 h.pt⟩
theorem dw_and (h1 : DT X W e f) (h2 : DW X W (.BoolOp .And (b :: rest) pos) g) : DW X W (.BoolOp .And (e :: b :: rest) pos) (cAnd f g) := by
  refine ⟨(pw_and h1.pt h2.pw).weak fun σ H Q h => ?_⟩
  obtain ⟨Z, ι, ρ, ah, hH, hE, h⟩ := h
  refine ⟨Z, ι, ρ, ah, hH, hE, h.bind.mono fun a ah1 ι1 H1 x1 hH1 h => ?_⟩
  rcases onB_cases h (fun z => z) with ⟨rfl, h⟩ | ⟨rfl, h⟩
  · exact ⟨true, rfl, iteT ⟨Z, ι1, ρ, ah1, hH1, hE.ext x1, h⟩⟩
  · obtain ⟨b, e, q⟩ := h.now hH1
    cases e
    exact ⟨false, rfl, iteF q⟩
theorem dw_or (h1 : DT X W e f) (h2 : DW X W (.BoolOp .Or (b :: rest) pos) g) : DW X W (.BoolOp .Or (e :: b :: rest) pos) (cOr f g) := by
  refine ⟨(pw_or h1.pt h2.pw).weak fun σ H Q h => ?_⟩
  obtain ⟨Z, ι, ρ, ah, hH, hE, h⟩ := h
  refine ⟨Z, ι, ρ, ah, hH, hE, h.bind.mono fun a ah1 ι1 H1 x1 hH1 h => ?_⟩
  rcases onB_cases h (fun z => z) with ⟨rfl, h⟩ | ⟨rfl, h⟩
  · obtain ⟨b, e, q⟩ := h.now hH1
    cases e
    exact ⟨true, rfl, iteT q⟩
  · exact ⟨false, rfl, iteF ⟨Z, ι1, ρ, ah1, hH1, hE.ext x1, h⟩⟩
theorem dt_w (h : DW X W e f) : DT X W e f := ⟨h.pw.pt⟩
/-! chains -/
def cChain (o o' : DOp) (f g k : SE) : SE := fun ρ ah => (f ρ ah).bind fun x ah1 => (g ρ ah1).bind fun y ah2 => (o x y ah2).bind fun b ah3 => onB b ((k ρ ah3).bind fun z ah4 => o' y z ah4) (.ok (.bl false) ah3)
theorem cChain_run {r r' : R2} {o o' : DOp} (hs : OpSim X r o) (hs' : OpSim X r' o') {σ : L2.St} {H : Hp} {Q : VK} (h : tOf (sr X) W (cChain o o' f g k) σ H Q) : tChain r r' (tOf (sr X) W f) (tOf (sr X) W g) (tOf (sr X) W k) σ H Q := by
  obtain ⟨Z, ι, ρ, ah, hH, hE, h⟩ := h
  refine ⟨Z, ι, ρ, ah, hH, hE, h.bind.mono fun a ah1 ι1 H1 x1 hH1 h x rx => ?_⟩
  refine ⟨Z, ι1, ρ, ah1, hH1, hE.ext x1, h.bind.mono fun b ah2 ι2 H2 x2 hH2 h y ry => ?_⟩
  refine hs W Z ι2 H2 σ ah2 a b x y _ hH2 (rx.ext x2) ry (h.bind.mono fun c ah3 ι3 H3 x3 hH3 h v rv => ?_)
  rcases onB_cases h (fun z => z) with ⟨rfl, h⟩ | ⟨rfl, h⟩
  · cases rv
    refine ⟨true, rfl, iteT ⟨Z, ι3, ρ, ah3, hH3, (hE.ext x1).ext (x2.trans x3), h.bind.mono fun d ah4 ι4 H4 x4 hH4 h z rz => ?_⟩⟩
    exact hs' W Z ι4 H4 σ ah4 b d y z Q hH4 (ry.ext (x3.trans x4)) rz h
  · cases rv
    exact ⟨false, rfl, iteF (h.now hH3 _ (.bl _))⟩
theorem de_chain {op op' : CmpOp} {r r' : R2} {o o' : DOp} (ho : OpR X (compareOp op) r) (hs : OpSim X r o) (ho' : OpR X (compareOp op') r') (hs' : OpSim X r' o') (h1 : DE X W e1 f) (h2 : DE X W e2 g) (h3 : DE X W e3 k)
    (hm : lastMarks [op, op'] [e2, e3] = false := by with_unfolding_all rfl) : DE X W (.Compare e1 [op, op'] [e2, e3] pos) (cChain o o' f g k) :=
  ⟨(pe_chain ho ho' h1.pe h2.pe h3.pe hm).weak fun _ _ _ h => cChain_run hs hs' h⟩
theorem dt_chain {op op' : CmpOp} {r r' : R2} {o o' : DOp} (ho : OpR X (compareOp op) r) (hs : OpSim X r o) (ho' : OpR X (compareOp op') r') (hs' : OpSim X r' o') (h1 : DE X W e1 f) (h2 : DE X W e2 g) (h3 : DE X W e3 k)
    (hm : lastMarks [op, op'] [e2, e3] = false := by with_unfolding_all rfl) : DT X W (.Compare e1 [op, op'] [e2, e3] pos) (cChain o o' f g k) :=
  ⟨(pt_chain ho ho' h1.pe h2.pe h3.pe hm).weak fun _ _ _ h => tTest_of (fun _ _ _ h => cChain_run hs hs' h) h⟩

/-! ### subscripts -/
def dIx : DOp := fun a b ah => match look ah a, b with
  | .lst ds, .int i => ret? (atI ds i) ah
  | .tup ds, .int i => ret? (atI ds i) ah
  | .str x, .int i => if x.length ≤ sizeLine then ret? ((atI x.cps.toList i).map fun c => .str ⟨#[c]⟩) ah else .stuck
  | _, _ => .stuck
theorem RVs.atI {K Z ι H} {ds : List D} {vs : List V} {i : Int} {d : D} (r : RVs K Z ι H ds vs) (h : L2.atI ds i = some d) : ∃ v, L2.atI vs i = some v ∧ RV K Z ι H d v := by
  unfold L2.atI at *
  rw [← r.length]
  cases e : ixN ds.length i with
  | none => rw [e] at h; cases h
  | some j =>
    rw [e] at h
    exact r.get h
theorem ret?_run {S : Sr} {Z ι : List Addr} {H : Hp} {σ : L2.St} {ah : List AO} {o : Option D} {P : D → List AO → List Addr → Hp → Prop} (h : ResP S W Z ι H σ P (ret? o ah)) (hH : RH S Z ι H ah) : ∃ d, o = some d ∧ P d ah ι H := by
  cases o with
  | none => exact h.elim
  | some d => exact ⟨d, rfl, h.now hH⟩
theorem strOk_one {x : Str} {c : Nat} (h : PyData.strOk x = true) (hc : c ∈ x.cps.toList) : PyData.strOk ⟨#[c]⟩ = true := by
  unfold PyData.strOk at *
  have := (Array.all_eq_true_iff_forall_mem.mp h) c (by simpa using hc)
  simpa using this
theorem atI_mem {α : Type} {xs : List α} {i : Int} {c : α} (h : atI xs i = some c) : c ∈ xs := by
  unfold atI at h
  cases e : ixN xs.length i with
  | none => rw [e] at h; cases h
  | some j => rw [e] at h; exact List.mem_of_getElem? h
theorem de_ix (h1 : DE X W e1 f) (h2 : DE X W e2 g) (hs : PlainIx e2 := by intro _ _; rfl) : DE X W (.Subscript e1 e2 pos) (cOp dIx f g) := by
  refine ⟨(pe_ix ix_seq h1.pe h2.pe hs).weak fun σ H Q h => cOp_run ?_ h⟩
  intro W Z ι H σ ah a b x y Q hH ra rb h
  unfold dIx at h
  split at h
  · rename_i ds i ea
    obtain ⟨p, vs, rfl, f1, l1, r1⟩ := look_lst hH ra ea
    cases rb
    obtain ⟨d, e, q⟩ := ret?_run h hH
    obtain ⟨v, e', rv⟩ := r1.atI e
    exact .inl ⟨p, vs, i, v, rfl, rfl, f1, e', q v rv⟩
  · rename_i ds i ea
    obtain ⟨p, vs, rfl, rfl, f1, l1, r1⟩ := look_tup ra ea
    cases rb
    obtain ⟨d, e, q⟩ := ret?_run h hH
    obtain ⟨v, e', rv⟩ := r1.atI e
    exact .inr (.inl ⟨p, vs, i, v, rfl, rfl, f1.sq, e', q v rv⟩)
  · rename_i z i ea
    obtain ⟨rfl, hz⟩ := look_str ra ea
    cases rb
    split at h
    · rename_i hl
      obtain ⟨d, e, q⟩ := ret?_run h hH
      cases e' : atI z.cps.toList i with
      | none => rw [e'] at e; cases e
      | some c =>
        rw [e'] at e; cases e
        exact .inr (.inr ⟨z, i, c, rfl, rfl, hl, e', q _ (.str _ (strOk_one hz (atI_mem e')))⟩)
    · exact h.elim
  · exact h.elim
/-! ### slices -/
abbrev SO := Rho → List AO → R (Option Int)
def oNone : SO := fun _ ah => .ok none ah
def oSome (f : SE) : SO := fun ρ ah => (f ρ ah).bind fun d ah1 => match d with
  | .int i => .ok (some i) ah1
  | _ => .stuck
def tOfO (S : Sr) (W : WX) (f : SO) : TO := fun σ H Q => ∃ Z ι ρ ah, RH S Z ι H ah ∧ RE S Z ι H ρ σ ∧ ResP S W Z ι H σ (fun d _ _ H' => Q d H') (f ρ ah)
structure DO' (X : Cx) (W : WX) (e : Option Expr) (f : SO) : Prop where
  po : PO X e (tOfO (sr X) W f)
theorem do_none : DO' X W none oNone := by
  refine ⟨⟨fun pins s σ H Q I h => po_none.run pins s σ H Q I ?_⟩⟩
  obtain ⟨Z, ι, ρ, ah, hH, hE, h⟩ := h
  exact h.now hH
theorem do_some (h1 : DE X W e f) : DO' X W (some e) (oSome f) := by
  refine ⟨⟨fun pins s σ H Q I h => (po_some h1.pe).run pins s σ H Q I ?_⟩⟩
  obtain ⟨Z, ι, ρ, ah, hH, hE, h⟩ := h
  refine ⟨Z, ι, ρ, ah, hH, hE, h.bind.mono fun a ah1 ι1 H1 x1 hH1 h v rv => ?_⟩
  cases rv with
  | int i => exact ⟨i, rfl, h.now hH1⟩
  | _ => exact h.elim
def cut {α : Type} (xs : List α) (lo hi : Option Int) : List α := (xs.drop (HT.sIx xs.length 0 lo)).take (HT.sIx xs.length xs.length hi - HT.sIx xs.length 0 lo)
def dSl (a : D) (lo hi : Option Int) (ah : List AO) : R D := match look ah a with
  | .lst ds => .ok (.lst (cut ds lo hi)) ah
  | .tup ds => .ok (.tup (cut ds lo hi)) ah
  | .str z => if z.length ≤ sizeLine then .ok (.str (cutS z lo hi)) ah else .stuck
  | _ => .stuck
def cSl (f : SE) (lo hi : SO) : SE := fun ρ ah => (f ρ ah).bind fun a ah1 => (lo ρ ah1).bind fun l ah2 => (hi ρ ah2).bind fun u ah3 => dSl a l u ah3
theorem strOk_cut {z : Str} (h : PyData.strOk z = true) (lo hi : Option Int) : PyData.strOk (cutS z lo hi) = true := by
  unfold PyData.strOk at *
  unfold cutS
  rw [Array.all_eq_true_iff_forall_mem] at *
  intro c hc
  refine h c ?_
  have hc : c ∈ (z.cps.toList.drop (HT.sIx z.length 0 lo)).take (HT.sIx z.length z.length hi - HT.sIx z.length 0 lo) := by simpa using hc
  have := List.mem_of_mem_drop (List.mem_of_mem_take hc)
  simpa using this
theorem cut_whole {α : Type} {xs : List α} {lo hi : Option Int} (h : HT.sIx xs.length 0 lo = 0 ∧ HT.sIx xs.length xs.length hi = xs.length) : cut xs lo hi = xs := by
  unfold cut
  rw [h.1, h.2, List.drop_zero, Nat.sub_zero, List.take_length]
theorem RVs.cut {K Z ι H} {ds : List D} {vs : List V} (r : RVs K Z ι H ds vs) (lo hi : Option Int) : RVs K Z ι H (Qd.cut ds lo hi) (cutV vs lo hi) := by
  unfold Qd.cut cutV
  rw [← r.length]
  exact (r.drop _).take _
theorem de_sl {lo hi : Option Expr} {l u : SO} {p2 : Pos} (h1 : DE X W e f) (hl : DO' X W lo l) (hu : DO' X W hi u) : DE X W (.Subscript e (.Slice lo hi none p2) pos) (cSl f l u) := by
  refine ⟨(pe_slice (sl_list.or (sl_tupA.or sl_str)) h1.pe hl.po hu.po).weak fun σ H Q h => ?_⟩
  obtain ⟨Z, ι, ρ, ah, hH, hE, h⟩ := h
  refine ⟨Z, ι, ρ, ah, hH, hE, h.bind.mono fun a ah1 ι1 H1 x1 hH1 h v rv => ?_⟩
  refine ⟨Z, ι1, ρ, ah1, hH1, hE.ext x1, h.bind.mono fun l ah2 ι2 H2 x2 hH2 h => ?_⟩
  refine ⟨Z, ι2, ρ, ah2, hH2, (hE.ext x1).ext x2, h.bind.mono fun u ah3 ι3 H3 x3 hH3 hq => ?_⟩
  clear h
  have ra := rv.ext (x2.trans x3)
  unfold dSl at hq
  split at hq
  · rename_i ds ea
    obtain ⟨p, vs, rfl, f1, l1, r1⟩ := look_lst hH3 ra ea
    refine .inl ⟨p, vs, rfl, f1, fun t ht => ?_⟩
    exact hq ι3 _ (ext_new ht) (hH3.new ht) _ (rv_lst hH3 ht (r1.cut l u) (Nat.le_trans (cutV_length _ _ _) l1))
  · rename_i ds ea
    obtain ⟨p, vs, rfl, rfl, f1, l1, r1⟩ := look_tup ra ea
    refine .inr (.inl ⟨p, vs, rfl, f1.sq, fun z => ?_, fun _ t ht => ?_⟩)
    · rw [cut_whole (by rw [r1.length]; exact z)] at hq
      exact hq.now hH3 _ ra
    · exact hq ι3 _ (ext_new ht) (hH3.new ht) _ (rv_tup hH3 ht (r1.cut l u) (Nat.le_trans (cutV_length _ _ _) l1))
  · rename_i z ea
    obtain ⟨rfl, hz⟩ := look_str ra ea
    split at hq
    · rename_i hl
      exact .inr (.inr ⟨z, rfl, hl, hq.now hH3 _ (.str _ (strOk_cut hz l u))⟩)
    · exact hq.elim
  · exact hq.elim
end
end Qd

set_option Elab.async false
set_option linter.all false
set_option maxRecDepth 100000
set_option maxHeartbeats 2000000
/-! QStmt: statements, targets, while, for. -/
namespace Qd
open PySem PySem.Spec L2

inductive Out where
  | nx (ρ : Rho) (ah : List AO) | rt (d : D) (ah : List AO) | bk (ρ : Rho) (ah : List AO) | ct (ρ : Rho) (ah : List AO) | ex (x : Exn) (ρ : Rho) (ah : List AO) | stuck
abbrev SS := Rho → List AO → Out
def R.out {α : Type} (r : R α) (ρ : Rho) (k : α → List AO → Out) : Out := match r with
  | .ok a ah => k a ah
  | .exc x ah => .ex x ρ ah
  | .stuck => .stuck
@[simp] theorem R.out_ok {α : Type} (a : α) (ah : List AO) (ρ : Rho) (k : α → List AO → Out) : (R.ok a ah).out ρ k = k a ah := rfl
@[simp] theorem R.out_exc {α : Type} (x : Exn) (ah : List AO) (ρ : Rho) (k : α → List AO → Out) : (R.exc x ah : R α).out ρ k = .ex x ρ ah := rfl
@[simp] theorem R.out_stuck {α : Type} (ρ : Rho) (k : α → List AO → Out) : (R.stuck : R α).out ρ k = .stuck := rfl
def ResS (S : Sr) (W : WX) (Z ι : List Addr) (H : Hp) (D : Ends) : Out → Prop
  | .nx ρ ah => ∀ ι' H' σ', Ext ι H ι' H' → RH S Z ι' H' ah → RE S Z ι' H' ρ σ' → D.nx σ' H'
  | .rt d ah => ∀ ι' H' v, Ext ι H ι' H' → RH S Z ι' H' ah → RV S.K Z ι' H' d v → D.rt v H'
  | .bk ρ ah => ∀ ι' H' σ', Ext ι H ι' H' → RH S Z ι' H' ah → RE S Z ι' H' ρ σ' → D.bk σ' H'
  | .ct ρ ah => ∀ ι' H' σ', Ext ι H ι' H' → RH S Z ι' H' ah → RE S Z ι' H' ρ σ' → D.ct σ' H'
  | .ex x ρ ah => ∀ cls dx ι' H' σ', Ext ι H ι' H' → RH S Z ι' H' ah → RE S Z ι' H' ρ σ' → RX S Z ι' H' x cls dx → W cls dx σ' H'
  | .stuck => False
section
variable {S : Sr} {W : WX} {Z ι ι1 : List Addr} {H H1 : Hp} {D : Ends} {σ : L2.St} {ρ : Rho} {ah : List AO} {α : Type}
theorem ResS.ext {o : Out} (h : ResS S W Z ι H D o) (x : Ext ι H ι1 H1) : ResS S W Z ι1 H1 D o := by
  cases o with
  | nx ρ ah => exact fun ι' H' σ' x' => h ι' H' σ' (x.trans x')
  | rt ρ ah => exact fun ι' H' σ' x' => h ι' H' σ' (x.trans x')
  | bk ρ ah => exact fun ι' H' σ' x' => h ι' H' σ' (x.trans x')
  | ct ρ ah => exact fun ι' H' σ' x' => h ι' H' σ' (x.trans x')
  | ex y ρ ah => exact fun cls dx ι' H' σ' x' => h cls dx ι' H' σ' (x.trans x')
  | stuck => exact h
theorem ResS.out {r : R α} {k : α → List AO → Out} (h : ResS S W Z ι H D (r.out ρ k)) (hE : RE S Z ι H ρ σ) : ResP S W Z ι H σ (fun d ah1 ι1 H1 => ResS S W Z ι1 H1 D (k d ah1)) r := by
  cases r with
  | ok a ah => exact fun ι' H' x _ => h.ext x
  | exc y ah => exact fun cls dx ι' H' x r => h cls dx ι' H' σ x r (hE.ext x)
  | stuck => exact h
end
def tOfS (S : Sr) (W : WX) (s : SS) : TS := fun D σ H => ∃ Z ι ρ ah, RH S Z ι H ah ∧ RE S Z ι H ρ σ ∧ ResS S W Z ι H D (s ρ ah)
structure DS (X : Cx) (W : WX) (st : Stmt) (s : SS) : Prop where
  ps : PS X st (tOfS (sr X) W s)
structure DSs (X : Cx) (W : WX) (st : List Stmt) (s : SS) : Prop where
  pss : PSs X st (tOfS (sr X) W s)
theorem _root_.L2.PS.weak {X : Cx} {st : Stmt} {t t' : TS} (h : PS X st t) (k : ∀ D σ H, t' D σ H → t D σ H) : PS X st t' := ⟨fun pins s σ H D I q => h.run pins s σ H D I (k D σ H q)⟩
theorem _root_.L2.PSs.weak {X : Cx} {st : List Stmt} {t t' : TS} (h : PSs X st t) (k : ∀ D σ H, t' D σ H → t D σ H) : PSs X st t' := ⟨fun pins s σ H D I q => h.run pins s σ H D I (k D σ H q)⟩

/-! ### blocks -/
def sNext : SS := fun ρ ah => .nx ρ ah
def Out.seq (o : Out) (k : SS) : Out := match o with
  | .nx ρ ah => k ρ ah
  | o => o
@[simp] theorem Out.seq_nx (ρ : Rho) (ah : List AO) (k : SS) : (Out.nx ρ ah).seq k = k ρ ah := rfl
@[simp] theorem Out.seq_rt (d : Qd.D) (ah : List AO) (k : SS) : (Out.rt d ah).seq k = .rt d ah := rfl
@[simp] theorem Out.seq_bk (ρ : Rho) (ah : List AO) (k : SS) : (Out.bk ρ ah).seq k = .bk ρ ah := rfl
@[simp] theorem Out.seq_ct (ρ : Rho) (ah : List AO) (k : SS) : (Out.ct ρ ah).seq k = .ct ρ ah := rfl
@[simp] theorem Out.seq_ex (x : Exn) (ρ : Rho) (ah : List AO) (k : SS) : (Out.ex x ρ ah).seq k = .ex x ρ ah := rfl
@[simp] theorem Out.seq_stuck (k : SS) : Out.stuck.seq k = .stuck := rfl
def sSeq (s t : SS) : SS := fun ρ ah => (s ρ ah).seq t
def sRet (f : SE) : SS := fun ρ ah => (f ρ ah).out ρ fun d ah1 => .rt d ah1
def sRetN : SS := fun _ ah => .rt .non ah
def sDrop (f : SE) : SS := fun ρ ah => (f ρ ah).out ρ fun _ ah1 => .nx ρ ah1
def sBreak : SS := fun ρ ah => .bk ρ ah
def sCont : SS := fun ρ ah => .ct ρ ah
def onBO (o : D) (t u : Out) : Out := match o with
  | .bl true => t
  | .bl false => u
  | _ => .stuck
@[simp] theorem onBO_true (t u : Out) : onBO (.bl true) t u = t := rfl
@[simp] theorem onBO_false (t u : Out) : onBO (.bl false) t u = u := rfl
theorem onBO_cases {P : Out → Prop} {o : D} {t u : Out} (h : P (onBO o t u)) (hs : ¬ P .stuck) : (o = .bl true ∧ P t) ∨ (o = .bl false ∧ P u) := by
  cases o with
  | bl b => cases b; exact .inr ⟨rfl, h⟩; exact .inl ⟨rfl, h⟩
  | _ => exact absurd h hs
def sIf (f : SE) (s t : SS) : SS := fun ρ ah => (f ρ ah).out ρ fun d ah1 => onBO d (s ρ ah1) (t ρ ah1)
section
variable {X : Cx} {W : WX} {pos : Pos} {st : Stmt} {rest : List Stmt} {s t : SS} {e c : Expr} {f g : SE}
theorem dss_nil : DSs X W [] sNext := by
  refine ⟨pss_nil.weak fun D σ H h => ?_⟩
  obtain ⟨Z, ι, ρ, ah, hH, hE, h⟩ := h
  exact h ι H σ .refl hH hE
theorem dss_cons (h1 : DS X W st s) (h2 : DSs X W rest t) : DSs X W (st :: rest) (sSeq s t) := by
  refine ⟨(pss_cons h1.ps h2.pss).weak fun D σ H h => ?_⟩
  obtain ⟨Z, ι, ρ, ah, hH, hE, h⟩ := h
  refine ⟨Z, ι, ρ, ah, hH, hE, ?_⟩
  unfold sSeq at h
  cases e : s ρ ah with
  | nx ρ1 ah1 =>
    rw [e] at h
    exact fun ι' H' σ' x r1 r2 => ⟨Z, ι', ρ1, ah1, r1, r2, ResS.ext h x⟩
  | rt d ah1 => rw [e] at h; exact h
  | bk d ah1 => rw [e] at h; exact h
  | ct d ah1 => rw [e] at h; exact h
  | ex y d ah1 => rw [e] at h; exact h
  | stuck => rw [e] at h; exact h
theorem dss_one (h1 : DS X W st s) : DSs X W [st] s := ⟨pss_one h1.ps⟩
theorem ds_pass : DS X W (.Pass pos) sNext := by
  refine ⟨ps_pass.weak fun D σ H h => ?_⟩
  obtain ⟨Z, ι, ρ, ah, hH, hE, h⟩ := h
  exact h ι H σ .refl hH hE
theorem ds_break : DS X W (.Break pos) sBreak := by
  refine ⟨ps_break.weak fun D σ H h => ?_⟩
  obtain ⟨Z, ι, ρ, ah, hH, hE, h⟩ := h
  exact h ι H σ .refl hH hE
theorem ds_cont : DS X W (.Continue pos) sCont := by
  refine ⟨ps_continue.weak fun D σ H h => ?_⟩
  obtain ⟨Z, ι, ρ, ah, hH, hE, h⟩ := h
  exact h ι H σ .refl hH hE
theorem ds_ret (he : DE X W e f) : DS X W (.Return (some e) pos) (sRet f) := by
  refine ⟨(ps_ret he.pe).weak fun D σ H h => ?_⟩
  obtain ⟨Z, ι, ρ, ah, hH, hE, h⟩ := h
  exact ⟨Z, ι, ρ, ah, hH, hE, (h.out hE).mono fun d ah1 ι1 H1 x1 hH1 h v rv => h ι1 H1 v .refl hH1 rv⟩
theorem ds_retN : DS X W (.Return none pos) sRetN := by
  refine ⟨ps_retN.weak fun D σ H h => ?_⟩
  obtain ⟨Z, ι, ρ, ah, hH, hE, h⟩ := h
  exact h ι H .non .refl hH .non
theorem ds_expr (he : DE X W e f) (hs : swapsWith e none pos.line X.env = pure false := by rfl) : DS X W (.Expr e pos) (sDrop f) := by
  refine ⟨(ps_expr he.pe hs).weak fun D σ H h => ?_⟩
  obtain ⟨Z, ι, ρ, ah, hH, hE, h⟩ := h
  exact ⟨Z, ι, ρ, ah, hH, hE, (h.out hE).mono fun d ah1 ι1 H1 x1 hH1 h v rv => h ι1 H1 σ .refl hH1 (hE.ext x1)⟩
theorem ds_if {a b : List Stmt} (hc : DT X W c f) (ha : DSs X W a s) (hb : DSs X W b t) : DS X W (.If c a b pos) (sIf f s t) := by
  refine ⟨(ps_if hc.pt ha.pss hb.pss).weak fun D σ H h => ?_⟩
  obtain ⟨Z, ι, ρ, ah, hH, hE, h⟩ := h
  refine ⟨Z, ι, ρ, ah, hH, hE, (h.out hE).mono fun d ah1 ι1 H1 x1 hH1 h => ?_⟩
  rcases onBO_cases h (fun z => z) with ⟨rfl, h⟩ | ⟨rfl, h⟩
  · exact ⟨true, rfl, iteT ⟨Z, ι1, ρ, ah1, hH1, hE.ext x1, h⟩⟩
  · exact ⟨false, rfl, iteF ⟨Z, ι1, ρ, ah1, hH1, hE.ext x1, h⟩⟩

/-! ### targets -/
abbrev SG := D → Rho → Option Rho
/-- what a target does: the slots vs alone are set -/
def GOk (K : PySem.W.Frag) (mg : Str → Option Value) (g : SG) (vs : List Nat) (t : TG) : Prop :=
  ∀ (Z ι : List Addr) (H : Hp) (ρ ρ' : Rho) (σ : L2.St) (d : D) (v : V) (Q : L2.St → Hp → Prop), RE ⟨K, mg⟩ Z ι H ρ σ → RV K Z ι H d v → g d ρ = some ρ' →
    (∀ σ', RE ⟨K, mg⟩ Z ι H ρ' σ' → σ'.length = σ.length → (∀ j, j ∉ vs → σ'[j]? = σ[j]?) → Q σ' H) → t v σ H Q
structure DG (X : Cx) (tg : Expr) (g : SG) (vs : List Nat) : Prop where
  pg : ∃ t : TG, PG X tg t ∧ GOk X.K X.mg g vs t
def gNm (i : Nat) : SG := fun d ρ => some (ρ.set i (some d))
theorem dg_name (i : Nat) {x : Str} (hN : X.N.Nodup) (hi : X.N[i]? = some x := by rfl) (hx : Loc X.env.scope x := by first | exact Or.inl rfl | exact Or.inr rfl) (hf : X.fn x = true ∨ X.env.scope.names.lookup x = some .local := by first | exact .inl rfl | exact .inr rfl | assumption) : DG X (.Name x pos) (gNm i) [i] := by
  refine ⟨gName i, pg_name hN hi hx hf, fun Z ι H ρ ρ' σ d v Q hE rv e h => ?_⟩
  cases e
  refine h _ (hE.set rv i) (by simp) fun j hj => ?_
  rw [List.getElem?_set_ne (fun z => hj (by simp [z]))]
abbrev SGs := List D → Rho → Option Rho
def gsNil : SGs := fun ds ρ => match ds with
  | [] => some ρ
  | _ => none
def gsCons (g : SG) (gs : SGs) : SGs := fun ds ρ => match ds with
  | d :: r => (g d ρ).bind fun ρ1 => gs r ρ1
  | [] => none
def gTp (n : Nat) (gs : SGs) : SG := fun d ρ => match d with
  | .tup ds => if ds.length = n then gs ds ρ else none
  | _ => none
def GsOk (K : PySem.W.Frag) (mg : Str → Option Value) (g : SGs) (vs : List Nat) (t : TGs) : Prop :=
  ∀ (Z ι : List Addr) (H : Hp) (ρ ρ' : Rho) (σ : L2.St) (ds : List D) (ws : List V) (Q : L2.St → Hp → Prop), RE ⟨K, mg⟩ Z ι H ρ σ → RVs K Z ι H ds ws → g ds ρ = some ρ' →
    (∀ σ', RE ⟨K, mg⟩ Z ι H ρ' σ' → σ'.length = σ.length → (∀ j, j ∉ vs → σ'[j]? = σ[j]?) → Q σ' H) → t ws σ H Q
structure DGs (X : Cx) (tg : List Expr) (g : SGs) (vs : List Nat) : Prop where
  pg : ∃ t : TGs, PGs X tg t ∧ GsOk X.K X.mg g vs t
theorem dgs_nil : DGs X [] gsNil [] := by
  refine ⟨gNil, pgs_nil, fun Z ι H ρ ρ' σ ds ws Q hE rv e h => ?_⟩
  cases rv with
  | nil => cases e; exact ⟨rfl, h σ hE rfl fun _ _ => rfl⟩
  | cons _ _ => cases e
theorem dgs_cons {e : Expr} {es : List Expr} {g : SG} {gs : SGs} {vs ws : List Nat} (h1 : DG X e g vs) (h2 : DGs X es gs ws) (hs : (assignEach (e :: es) X.env).map (·.2) = assign e X.env :: (assignEach es X.env).map (·.2) := by rfl) : DGs X (e :: es) (gsCons g gs) (vs ++ ws) := by
  obtain ⟨t, p1, q1⟩ := h1.pg
  obtain ⟨u, p2, q2⟩ := h2.pg
  refine ⟨gCons t u, pgs_cons p1 p2 hs, fun Z ι H ρ ρ' σ ds us Q hE rv e h => ?_⟩
  cases rv with
  | nil => cases e
  | @cons d v ds us r rs =>
    have e : (g d ρ).bind (fun ρ1 => gs ds ρ1) = some ρ' := e
    cases e1 : g d ρ with
    | none => rw [e1] at e; cases e
    | some ρ1 =>
      rw [e1] at e
      have e : gs ds ρ1 = some ρ' := e
      refine ⟨v, us, rfl, q1 Z ι H ρ ρ1 σ d v _ hE r e1 fun σ1 hE1 l1 k1 => ?_⟩
      refine q2 Z ι H ρ1 ρ' σ1 ds us Q hE1 rs e fun σ2 hE2 l2 k2 => ?_
      refine h σ2 hE2 (l2.trans l1) fun j hj => ?_
      rw [List.mem_append, not_or] at hj
      rw [k2 j hj.2, k1 j hj.1]
theorem dg_tup {es : List Expr} {k : Nat} {gs : SGs} {vs : List Nat} {n : Nat} (hc : X.calm = true) (h : DGs X es gs vs) (hn : (assignEach es X.env).length = n := by rfl) (hst : (assignEach es X.env).findIdx? (·.1) = none := by rfl) : DG X (.Tuple es k pos) (gTp n gs) vs := by
  obtain ⟨t, p1, q1⟩ := h.pg
  refine ⟨gTup X.K n t, pg_tup hc p1 hn hst, fun Z ι H ρ ρ' σ d v Q hE rv e h => ?_⟩
  unfold gTp at e
  split at e
  · split at e
    · rename_i ds hl
      cases rv with
      | tup f1 l1 r1 => exact ⟨_, _, rfl, f1.sq, by rw [← r1.length]; exact hl, q1 Z ι H ρ ρ' σ ds _ Q hE r1 e h⟩
    · cases e
  · cases e

/-! ### assignments -/
def sAsg (f : SE) (g : SG) : SS := fun ρ ah => (f ρ ah).out ρ fun d ah1 => match g d ρ with
  | some ρ1 => .nx ρ1 ah1
  | none => .stuck
theorem asg_run {K : PySem.W.Frag} {mg : Str → Option Value} {g : SG} {vs : List Nat} {t : TG} (q : GOk K mg g vs t) {D : Ends} {σ : L2.St} {H : Hp} (h : tOfS ⟨K, mg⟩ W (sAsg f g) D σ H) : tAsg (tOf ⟨K, mg⟩ W f) t D σ H := by
  obtain ⟨Z, ι, ρ, ah, hH, hE, h⟩ := h
  refine ⟨Z, ι, ρ, ah, hH, hE, (h.out hE).mono fun d ah1 ι1 H1 x1 hH1 h v rv => ?_⟩
  cases e : g d ρ with
  | none => rw [e] at h; exact h.elim
  | some ρ1 =>
    rw [e] at h
    exact q Z ι1 H1 ρ ρ1 σ d v D.nx (hE.ext x1) rv e fun σ' hE' _ _ => h ι1 H1 σ' .refl hH1 hE'
theorem ds_asg {tg e : Expr} {g : SG} {vs : List Nat} (he : DE X W e f) (hg : DG X tg g vs) (hs : swapsWithSole [tg] e pos.line X.env = pure false := by rfl) (hw : swappedStores [tg] e X.env = pure none := by rfl)
    (h1 : (assignEach [tg] X.env).map (·.2) = [assign tg X.env] := by rfl) : DS X W (.Assign [tg] e pos) (sAsg f g) := by
  obtain ⟨t, p, q⟩ := hg.pg
  exact ⟨(ps_asg he.pe p hs hw h1).weak fun D σ H h => asg_run q h⟩
theorem ds_set (i : Nat) {x : Str} {e : Expr} {pos' : Pos} (hN : X.N.Nodup) (he : DE X W e f) (hi : X.N[i]? = some x := by rfl) (hx : Loc X.env.scope x := by first | exact Or.inl rfl | exact Or.inr rfl) (hs : swapsWith e (some (.Name x pos')) pos.line X.env = pure false := by rfl)
    (hf : X.fn x = true ∨ X.env.scope.names.lookup x = some .local := by first | exact .inl rfl | exact .inr rfl | assumption) : DS X W (.Assign [.Name x pos'] e pos) (sAsg f (gNm i)) := by
  refine ⟨(ps_set hN hi hx he.pe hs hf).weak fun D σ H h => ?_⟩
  refine asg_run (K := X.K) (mg := X.mg) (vs := [i]) (t := gName i) (fun Z ι H ρ ρ' σ d v Q hE rv e h => ?_) h
  cases e
  refine h _ (hE.set rv i) (by simp) fun j hj => ?_
  rw [List.getElem?_set_ne (fun z => hj (by simp [z]))]
/-- a, b = x, y -/
def sPar (i j : Nat) (g : SA) : SS := fun ρ ah => (g ρ ah).out ρ fun ds ah1 => match ds with
  | [a, b] => .nx ((ρ.set i (some a)).set j (some b)) ah1
  | _ => .stuck
theorem ds_par (i j : Nat) {x y : Str} {a b : Expr} {g : SA} {px py pt : Pos} {kt k2 pt2} (hc : X.calm = true) (hN : X.N.Nodup) (ha : DA X W [a, b] g) (hi : X.N[i]? = some x := by rfl) (hj : X.N[j]? = some y := by rfl) (hij : i ≠ j := by decide)
    (hx : X.env.scope.names.lookup x = some .local := by rfl) (hy : X.env.scope.names.lookup y = some .local := by rfl)
    (hw : swappedStores [.Tuple [.Name x px, .Name y py] kt pt] (.Tuple [a, b] k2 pt2) X.env = pure (some [x, y]) := by rfl)
    (hs : swapsWithSole [.Tuple [.Name x px, .Name y py] kt pt] (.Tuple [a, b] k2 pt2) pos.line X.env = pure false := by rfl) :
    DS X W (.Assign [.Tuple [.Name x px, .Name y py] kt pt] (.Tuple [a, b] k2 pt2) pos) (sPar i j g) := by
  refine ⟨(ps_par hc hN hi hj hij hx hy ha.pa hw hs).weak fun D σ H h => ?_⟩
  obtain ⟨Z, ι, ρ, ah, hH, hE, h⟩ := h
  refine ⟨Z, ι, ρ, ah, hH, hE, (h.out hE).mono fun ds ah1 ι1 H1 x1 hH1 h vs rvs => ?_⟩
  split at h
  · cases rvs with
    | cons r1 rs =>
      cases rs with
      | cons r2 rs =>
        cases rs
        exact ⟨_, _, rfl, h ι1 H1 _ .refl hH1 (((hE.ext x1).set r1 i).set r2 j)⟩
  · exact h.elim
/-- x += e, of ints (and the like) -/
def sAug (i : Nat) (o : DOp) (f : SE) : SS := fun ρ ah => match ρ[i]? with
  | some (some x) => (f ρ ah).out ρ fun y ah1 => (o x y ah1).out ρ fun d ah2 => .nx (ρ.set i (some d)) ah2
  | _ => .stuck
theorem ds_aug (i : Nat) {x : Str} {e : Expr} {op : Operator} {r : R2} {o : DOp} {pos' : Pos} (hN : X.N.Nodup) (ho : OpR X (inplaceOp op) r) (hs : OpSim X r o) (he : DE X W e f) (hi : X.N[i]? = some x := by rfl) (hx : Loc X.env.scope x := by first | exact Or.inl rfl | exact Or.inr rfl)
    (hf : X.fn x = true ∨ X.env.scope.names.lookup x = some .local := by first | exact .inl rfl | exact .inr rfl | assumption) :
    DS X W (.AugAssign (.Name x pos') op e pos) (sAug i o f) := by
  refine ⟨(ps_aug (ti := r) hN hi hx he.pe (fun pins s σ H x y v u Q I rx ry h => ho pins s σ H x y v u Q I rx ry h) hf).weak fun D σ H h => ?_⟩
  obtain ⟨Z, ι, ρ, ah, hH, hE, h⟩ := h
  unfold sAug at h
  split at h
  · rename_i d e1
    obtain ⟨v, e2, rv⟩ := hE.at_ i d e1
    refine ⟨v, e2, Z, ι, ρ, ah, hH, hE, (h.out hE).mono fun y ah1 ι1 H1 x1 hH1 h w rw => ?_⟩
    refine hs W Z ι1 H1 σ ah1 d y v w _ hH1 (rv.ext x1) rw ((h.out (hE.ext x1)).mono fun z ah2 ι2 H2 x2 hH2 h u ru => ?_)
    exact h ι2 H2 _ .refl hH2 (((hE.ext x1).ext x2).set ru i)
  · exact h.elim

/-! ### while -/
def whileN (t : SE) (b : SS) : Nat → SS
  | 0 => fun _ _ => .stuck
  | n + 1 => fun ρ ah => (t ρ ah).out ρ fun d ah1 => onBO d (match b ρ ah1 with
    | .nx ρ2 ah2 => whileN t b n ρ2 ah2
    | .ct ρ2 ah2 => whileN t b n ρ2 ah2
    | .bk ρ2 ah2 => .nx ρ2 ah2
    | o => o) (.nx ρ ah1)
theorem whileN_mono {t : SE} {b : SS} : ∀ (n : Nat) (ρ : Rho) (ah : List AO), whileN t b n ρ ah ≠ .stuck → whileN t b (n + 1) ρ ah = whileN t b n ρ ah
  | 0, _, _, h => absurd rfl h
  | n + 1, ρ, ah, h => by
    unfold whileN at h ⊢
    cases e : t ρ ah with
    | exc x ah1 => rfl
    | stuck => rfl
    | ok d ah1 =>
      rw [e] at h
      simp only [R.out_ok] at h ⊢
      cases d with
      | bl c =>
        cases c with
        | false => rfl
        | true =>
          simp only [onBO_true] at h ⊢
          cases e2 : b ρ ah1 with
          | nx ρ2 ah2 => rw [e2] at h; exact whileN_mono n ρ2 ah2 h
          | ct ρ2 ah2 => rw [e2] at h; exact whileN_mono n ρ2 ah2 h
          | bk ρ2 ah2 => rfl
          | rt d2 ah2 => rfl
          | ex x ρ2 ah2 => rfl
          | stuck => rfl
      | _ => rfl
theorem whileN_le {t : SE} {b : SS} {n m : Nat} (h : n ≤ m) {ρ : Rho} {ah : List AO} (hn : whileN t b n ρ ah ≠ .stuck) : whileN t b m ρ ah = whileN t b n ρ ah := by
  induction h with
  | refl => rfl
  | @step m _ ih => rw [whileN_mono m ρ ah (by rw [ih]; exact hn), ih]
open Classical in
noncomputable def sWhile (t : SE) (b : SS) : SS := fun ρ ah => if h : ∃ n, whileN t b n ρ ah ≠ .stuck then whileN t b h.choose ρ ah else .stuck
theorem sWhile_of {t : SE} {b : SS} {n : Nat} {ρ : Rho} {ah : List AO} (h : whileN t b n ρ ah ≠ .stuck) : sWhile t b ρ ah = whileN t b n ρ ah := by
  have hx : ∃ n, whileN t b n ρ ah ≠ .stuck := ⟨n, h⟩
  unfold sWhile
  rw [dif_pos hx]
  rcases Nat.le_total hx.choose n with q | q
  · exact (whileN_le q hx.choose_spec).symm
  · exact whileN_le q h
/-- one turn -/
def whileStep (t : SE) (b : SS) (w : SS) : SS := fun ρ ah => (t ρ ah).out ρ fun d ah1 => onBO d (match b ρ ah1 with
    | .nx ρ2 ah2 => w ρ2 ah2
    | .ct ρ2 ah2 => w ρ2 ah2
    | .bk ρ2 ah2 => .nx ρ2 ah2
    | o => o) (.nx ρ ah1)
theorem sWhile_eq (t : SE) (b : SS) (ρ : Rho) (ah : List AO) : sWhile t b ρ ah = whileStep t b (sWhile t b) ρ ah := by
  by_cases hx : ∃ n, whileN t b n ρ ah ≠ .stuck
  · obtain ⟨n, hn⟩ := hx
    rw [sWhile_of hn]
    cases n with
    | zero => exact absurd rfl hn
    | succ n =>
      unfold whileN at hn ⊢
      unfold whileStep
      cases e : t ρ ah with
      | exc x ah1 => rfl
      | stuck => rfl
      | ok d ah1 =>
        rw [e] at hn
        simp only [R.out_ok] at hn ⊢
        cases d with
        | bl c =>
          cases c with
          | false => rfl
          | true =>
            simp only [onBO_true] at hn ⊢
            cases e2 : b ρ ah1 with
            | nx ρ2 ah2 => rw [e2] at hn; exact (sWhile_of hn).symm
            | ct ρ2 ah2 => rw [e2] at hn; exact (sWhile_of hn).symm
            | bk ρ2 ah2 => rfl
            | rt d2 ah2 => rfl
            | ex x ρ2 ah2 => rfl
            | stuck => rfl
        | _ => rfl
  · have e1 : sWhile t b ρ ah = .stuck := by unfold sWhile; rw [dif_neg hx]
    have hall : ∀ n, whileN t b n ρ ah = .stuck := fun n => Classical.not_not.mp fun z => hx ⟨n, z⟩
    rw [e1]
    unfold whileStep
    have h1 := hall 1
    unfold whileN at h1
    cases e : t ρ ah with
    | exc x ah1 => rw [e] at h1; exact h1.symm
    | stuck => rfl
    | ok d ah1 =>
      rw [e] at h1
      simp only [R.out_ok] at h1 ⊢
      cases d with
      | bl c =>
        cases c with
        | false => exact h1.symm
        | true =>
          simp only [onBO_true] at h1 ⊢
          have inner : ∀ ρ2 ah2, (b ρ ah1 = .nx ρ2 ah2 ∨ b ρ ah1 = .ct ρ2 ah2) → sWhile t b ρ2 ah2 = .stuck := fun ρ2 ah2 e2 => by
            unfold sWhile
            rw [dif_neg]
            rintro ⟨n, hn⟩
            have h2 := hall (n + 1)
            unfold whileN at h2
            rw [e] at h2
            simp only [R.out_ok, onBO_true] at h2
            rcases e2 with e2 | e2 <;> (rw [e2] at h2; exact hn h2)
          cases e2 : b ρ ah1 with
          | nx ρ2 ah2 => exact (inner ρ2 ah2 (.inl e2)).symm
          | ct ρ2 ah2 => exact (inner ρ2 ah2 (.inr e2)).symm
          | bk ρ2 ah2 => rw [e2] at h1; exact h1.symm
          | rt d2 ah2 => rw [e2] at h1; exact h1.symm
          | ex x ρ2 ah2 => rw [e2] at h1; exact h1.symm
          | stuck => rfl
      | _ => rfl
theorem ds_while {body : List Stmt} (hp : PassesOwn (model X.prog X.w) X.A X.env X.xe) (hc : DT X W c f) (hb : DSs X W body s) : DS X W (.While c body [] pos) (sWhile f s) := by
  refine ⟨(ps_while hp hc.pt hb.pss).weak fun D σ H h => ?_⟩
  obtain ⟨Z, ι, ρ, ah, hH, hE, h⟩ := h
  have hx : ∃ n, whileN f s n ρ ah ≠ .stuck := Classical.byContradiction fun z => by
    unfold sWhile at h
    rw [dif_neg z] at h
    exact h
  obtain ⟨n, hn⟩ := hx
  rw [sWhile_of hn] at h
  refine ⟨fun m σ1 H1 => ∃ ι1 ρ1 ah1, Ext ι H ι1 H1 ∧ RH (sr X) Z ι1 H1 ah1 ∧ RE (sr X) Z ι1 H1 ρ1 σ1 ∧ ResS (sr X) W Z ι1 H1 D (whileN f s m ρ1 ah1), ⟨n, ι, ρ, ah, .refl, hH, hE, h⟩, ?_⟩
  rintro m σ1 H1 ⟨ι1, ρ1, ah1, x1, hH1, hE1, h1⟩
  cases m with
  | zero => exact h1.elim
  | succ m =>
    unfold whileN at h1
    refine ⟨Z, ι1, ρ1, ah1, hH1, hE1, (h1.out hE1).mono fun d ah2 ι2 H2 x2 hH2 h2 => ?_⟩
    rcases onBO_cases h2 (fun z => z) with ⟨rfl, h2⟩ | ⟨rfl, h2⟩
    · refine ⟨true, rfl, iteT ⟨fun σ' H' => ∃ ι1 ρ1 ah1, Ext ι H ι1 H' ∧ RH (sr X) Z ι1 H' ah1 ∧ RE (sr X) Z ι1 H' ρ1 σ' ∧ ResS (sr X) W Z ι1 H' D (whileN f s m ρ1 ah1), fun σ' H' q => ⟨m, Nat.lt_succ_self m, q⟩, ?_⟩⟩
      refine ⟨Z, ι2, ρ1, ah2, hH2, hE1.ext x2, ?_⟩
      cases e : s ρ1 ah2 with
      | nx ρ3 ah3 => rw [e] at h2; exact fun ι' H' σ' x r1 r2 => ⟨ι', ρ3, ah3, (x1.trans x2).trans x, r1, r2, ResS.ext h2 x⟩
      | ct ρ3 ah3 => rw [e] at h2; exact fun ι' H' σ' x r1 r2 => ⟨ι', ρ3, ah3, (x1.trans x2).trans x, r1, r2, ResS.ext h2 x⟩
      | bk ρ3 ah3 => rw [e] at h2; exact h2
      | rt d3 ah3 => rw [e] at h2; exact h2
      | ex x ρ3 ah3 => rw [e] at h2; exact h2
      | stuck => rw [e] at h2; exact h2
    · exact ⟨false, rfl, iteF (h2 ι2 H2 σ1 .refl hH2 (hE1.ext x2))⟩
end
end Qd

set_option Elab.async false
set_option linter.all false
set_option maxRecDepth 100000
set_option maxHeartbeats 2000000
/-! QLoop: what is walked; for; list comprehensions. -/
namespace Qd
open PySem PySem.Spec L2

/-- what is walked: its items; the lists that have to stand still meanwhile -/
structure ItV where
  items : List D
  held : List (Nat × List D)
/-- the lists stand still -/
noncomputable def heldOk (held : List (Nat × List D)) (ah : List AO) : Bool := @decide (∀ p ∈ held, ah[p.1]? = some (AO.lst p.2)) (Classical.propDecidable _)
@[simp] theorem heldOk_nil (ah : List AO) : heldOk [] ah = true := by simp [heldOk]
@[simp] theorem heldOk_one (n : Nat) (ds : List D) (ah : List AO) (h : ah[n]? = some (.lst ds)) : heldOk [(n, ds)] ah = true := by simp [heldOk, h]
theorem heldOk_at {held : List (Nat × List D)} {ah : List AO} (h : heldOk held ah = true) : ∀ p ∈ held, ah[p.1]? = some (.lst p.2) := by
  unfold heldOk at h
  exact @of_decide_eq_true _ (Classical.propDecidable _) h
abbrev SI := Rho → List AO → R ItV
/-- more that others may change, none of it there already -/
def Zmore (Z : List Addr) (H : Hp) (Z2 : List Addr) : Prop := ∀ a, a ∈ Z2 → a ∈ Z ∨ H a = none
theorem Zmore.out {Z Z2 : List Addr} {H : Hp} (m : Zmore Z H Z2) {a : Addr} {o : HO} (h : H a = some o) (hn : a ∉ Z) : a ∉ Z2 := fun hm => by
  rcases m a hm with q | q
  · exact hn q
  · rw [h] at q; cases q
theorem FzT.more {K Z ι H ι' H' Z2 a xs} (h : FzT K Z ι H a xs) (x : Ext ι H ι' H') (m : Zmore Z H Z2) : FzT K Z2 ι' H' a xs := by
  rcases h with ⟨⟨n1, n2⟩, h⟩ | h
  · refine .inl ⟨⟨(x.rd h n1 rfl).2, ?_⟩, (x.rd h n1 rfl).1⟩
    rcases h with h | ⟨o, h⟩
    · exact m.out h n2
    · exact m.out h n2
  · exact .inr h
theorem FzS.more {K Z ι H ι' H' Z2 a xs} (h : FzS K Z ι H a xs) (x : Ext ι H ι' H') (m : Zmore Z H Z2) : FzS K Z2 ι' H' a xs := by
  rcases h with ⟨⟨n1, n2⟩, h⟩ | h
  · refine .inl ⟨⟨(x.rd h n1 rfl).2, ?_⟩, (x.rd h n1 rfl).1⟩
    rcases h with h | ⟨o, h⟩
    · exact m.out h n2
    · exact m.out h n2
  · exact .inr h
mutual
theorem RV.more {K Z ι H ι' H' Z2} (x : Ext ι H ι' H') (m : Zmore Z H Z2) : ∀ {d : D} {v : V}, RV K Z ι H d v → RV K Z2 ι' H' d v
  | _, _, .non => .non
  | _, _, .bl b => .bl b
  | _, _, .int i => .int i
  | _, _, .str z h => .str z h
  | _, _, .scr h l => .scr (h.more x m) l
  | _, _, .ref h => .ref (by
      obtain ⟨t, e⟩ := x.pre
      rw [← e, List.getElem?_append_left (List.getElem?_eq_some_iff.mp h).1]
      exact h)
  | _, _, .lst n1 n2 h l r => .lst (x.out h rfl n1) (m.out h n2) (x.keep _ _ h rfl n1) l (RVs.more x m r)
  | _, _, .tup h l r => .tup (h.more x m) l (RVs.more x m r)
theorem RVs.more {K Z ι H ι' H' Z2} (x : Ext ι H ι' H') (m : Zmore Z H Z2) : ∀ {ds : List D} {vs : List V}, RVs K Z ι H ds vs → RVs K Z2 ι' H' ds vs
  | _, _, .nil => .nil
  | _, _, .cons h t => .cons (RV.more x m h) (RVs.more x m t)
end
structure ItOk (S : Sr) (Z ι : List Addr) (H : Hp) (J : It) (iv : ItV) : Prop where
  small : iv.items.length ≤ sizeLine
  go : ∀ Z2 ι2 H2 ah2, Zmore Z H Z2 → Ext ι H ι2 H2 → RH S Z2 ι2 H2 ah2 → heldOk iv.held ah2 = true → ∀ (i : Nat) d, iv.items[i]? = some d →
    J.go i H2 ∧ ∀ x H3, J.yld i H2 x H3 → Ext ι2 H2 ι2 H3 ∧ RH S Z2 ι2 H3 ah2 ∧ RV S.K Z2 ι2 H3 d x ∧ ∀ a o, H2 a = some o → H3 a = some o
  stop : ∀ Z2 ι2 H2 ah2, Zmore Z H Z2 → Ext ι H ι2 H2 → RH S Z2 ι2 H2 ah2 → heldOk iv.held ah2 = true → J.stop iv.items.length H2
def tIt (S : Sr) (W : WX) (f : SI) : TI := fun σ H R => ∃ Z ι ρ ah, RH S Z ι H ah ∧ RE S Z ι H ρ σ ∧ ResP S W Z ι H σ (fun iv _ ι1 H1 => ∀ J, ItOk S Z ι1 H1 J iv → R J H1) (f ρ ah)
structure DI (X : Cx) (W : WX) (tg iter : Expr) (f : SI) : Prop where
  pi : PI X tg iter (tIt (sr X) W f)
theorem _root_.L2.PI.weak {X : Cx} {tg iter : Expr} {t t' : TI} (h : PI X tg iter t) (k : ∀ σ H R, t' σ H R → t σ H R) : PI X tg iter t' := ⟨fun pins s σ H R I q => h.run pins s σ H R I (k σ H R q)⟩

/-! ### lists, tuples, ranges -/
/-- the items of a value that is walked -/
def itOf (ah : List AO) (d : D) : Option ItV := match d with
  | .ref n => match ah[n]? with
    | some (.lst ds) => some ⟨ds, [(n, ds)]⟩
    | _ => none
  | .lst ds => some ⟨ds, []⟩
  | .scr ns => some ⟨ns.map D.int, []⟩
  | .tup ds => some ⟨ds, []⟩
  | _ => none
def iOf (f : SE) : SI := fun ρ ah => (f ρ ah).bind fun d ah1 => match itOf ah1 d with
  | some iv => .ok iv ah1
  | none => .stuck
/-- a list that is walked: at every later time it is read, with its items -/
def WalkL (S : Sr) (Z ι : List Addr) (H : Hp) (iv : ItV) (a : Addr) : Prop :=
  iv.items.length ≤ sizeLine ∧ ∀ Z2 ι2 H2 ah2, Zmore Z H Z2 → Ext ι H ι2 H2 → RH S Z2 ι2 H2 ah2 → heldOk iv.held ah2 = true → ∃ xs, SqL S.K H2 a xs ∧ RVs S.K Z2 ι2 H2 iv.items xs
def WalkT (S : Sr) (Z ι : List Addr) (H : Hp) (iv : ItV) (a : Addr) : Prop :=
  iv.items.length ≤ sizeLine ∧ ∀ Z2 ι2 H2 ah2, Zmore Z H Z2 → Ext ι H ι2 H2 → RH S Z2 ι2 H2 ah2 → heldOk iv.held ah2 = true → ∃ xs, SqT S.K H2 a xs ∧ RVs S.K Z2 ι2 H2 iv.items xs
theorem itOf_walk {S : Sr} {Z ι : List Addr} {H : Hp} {ah : List AO} {d : D} {v : V} {iv : ItV} (hH : RH S Z ι H ah) (r : RV S.K Z ι H d v) (e : itOf ah d = some iv) :
    ∃ a, v = .ref a ∧ ((WalkL S Z ι H iv a ∧ ∃ xs, SqL S.K H a xs) ∨ (WalkT S Z ι H iv a ∧ (∃ xs, SqT S.K H a xs) ∧ ∃ ds, d = .tup ds)) := by
  cases r with
  | @ref n a h =>
    unfold itOf at e
    simp only at e
    cases q : ah[n]? with
    | none => rw [q] at e; cases e
    | some o =>
      rw [q] at e
      cases o with
      | lst es =>
        cases e
        obtain ⟨xs, h1, h2, h3⟩ := hH.at_ n a _ h q
        refine ⟨a, rfl, .inl ⟨⟨by rw [h3.length]; exact h2, fun Z2 ι2 H2 ah2 m x hH2 hk => ?_⟩, xs, .of h1⟩⟩
        have k := heldOk_at hk (n, es) (by simp)
        obtain ⟨t, e⟩ := x.pre
        have h' : ι2[n]? = some a := by rw [← e, List.getElem?_append_left (List.getElem?_eq_some_iff.mp h).1]; exact h
        obtain ⟨ys, k1, k2, k3⟩ := hH2.at_ n a _ h' k
        exact ⟨ys, .of k1, k3⟩
      | obj c fs => cases e
  | @lst a xs ds n1 n2 h l r =>
    cases e
    exact ⟨a, rfl, .inl ⟨⟨by rw [r.length]; exact l, fun Z2 ι2 H2 ah2 m x hH2 hk => ⟨xs, .of (x.keep _ _ h rfl n1), r.more x m⟩⟩, xs, .of h⟩⟩
  | @scr a ns h l =>
    cases e
    exact ⟨a, rfl, .inl ⟨⟨by simpa using l, fun Z2 ι2 H2 ah2 m x hH2 hk => ⟨_, (h.more x m).sq, RVs.of_ints ns⟩⟩, _, h.sq⟩⟩
  | @tup a xs ds f l r =>
    cases e
    exact ⟨a, rfl, .inr ⟨⟨by rw [r.length]; exact l, fun Z2 ι2 H2 ah2 m x hH2 hk => ⟨xs, (f.more x m).sq, r.more x m⟩⟩, ⟨xs, f.sq⟩, _, rfl⟩⟩
  | _ => cases e
theorem itl_ok {S : Sr} {Z ι : List Addr} {H : Hp} {iv : ItV} {a : Addr} (w : WalkL S Z ι H iv a) : ItOk S Z ι H (Itl S.K a) iv := by
  refine ⟨w.1, fun Z2 ι2 H2 ah2 m x hH hk i d hd => ?_, fun Z2 ι2 H2 ah2 m x hH hk => ?_⟩
  · obtain ⟨xs, h1, h2⟩ := w.2 Z2 ι2 H2 ah2 m x hH hk
    obtain ⟨v, e, rv⟩ := h2.get hd
    refine ⟨⟨xs, v, h1, e⟩, fun y H3 hy => ?_⟩
    obtain ⟨rfl, hy⟩ := hy
    have e2 := hy xs h1
    rw [e] at e2; cases e2
    exact ⟨.refl, hH, rv, fun _ _ q => q⟩
  · obtain ⟨xs, h1, h2⟩ := w.2 Z2 ι2 H2 ah2 m x hH hk
    exact ⟨xs, h1, Nat.le_of_eq h2.length.symm⟩
theorem itt_ok {S : Sr} {Z ι : List Addr} {H : Hp} {iv : ItV} {a : Addr} (w : WalkT S Z ι H iv a) : ItOk S Z ι H (Itt S.K a) iv := by
  refine ⟨w.1, fun Z2 ι2 H2 ah2 m x hH hk i d hd => ?_, fun Z2 ι2 H2 ah2 m x hH hk => ?_⟩
  · obtain ⟨xs, h1, h2⟩ := w.2 Z2 ι2 H2 ah2 m x hH hk
    obtain ⟨v, e, rv⟩ := h2.get hd
    refine ⟨⟨xs, v, h1, e⟩, fun y H3 hy => ?_⟩
    obtain ⟨rfl, hy⟩ := hy
    have e2 := hy xs h1
    rw [e] at e2; cases e2
    exact ⟨.refl, hH, rv, fun _ _ q => q⟩
  · obtain ⟨xs, h1, h2⟩ := w.2 Z2 ι2 H2 ah2 m x hH hk
    exact ⟨xs, h1, Nat.le_of_eq h2.length.symm⟩
/-- two ways of walking one thing -/
def tIor (t u : TI) : TI := fun σ H R => t σ H R ∨ u σ H R
section
variable {X : Cx} {W : WX} {tg e e1 e2 e3 : Expr} {f g k : SE}
/-- a list or a tuple -/
theorem pi_seq {te : TE} (he : PE X e te) : PI X tg e (fun σ H R => te σ H fun x H1 => ∃ a, x = .ref a ∧ (((∃ xs, SqL X.K H1 a xs) ∧ R (Itl X.K a) H1) ∨ ((∃ xs, SqT X.K H1 a xs) ∧ R (Itt X.K a) H1))) := by
  refine ⟨fun pins s σ H R I h => ?_⟩
  refine thn (he.run pins s σ H _ I h) fun v s1 ⟨x, H1, I1, r1, q1⟩ => ?_
  obtain ⟨a, e, q1⟩ := q1
  subst e
  cases r1
  rcases q1 with ⟨⟨xs, hq⟩, q⟩ | ⟨⟨xs, hq⟩, q⟩
  · obtain ⟨its, rv, p, hz⟩ := I1.list hq
    refine wpAny_pyIter_list p.isList ?_
    refine ⟨s1.heap.objs.size, [s1.heap.objs.size], _, _, H1, rfl, I1.kept (t' := s1.toks) fun b o e => Heap.get?_push_of_some _ e, turn_list a _, ⟨_, Heap.get?_push_size _ rfl, rfl, rfl⟩, fun b hb => ?_, q⟩
    have e : b = s1.heap.objs.size := by simpa using hb
    subst e
    exact I1.fpOk (Nat.le_refl _) (I1.hok.fresh (Nat.le_refl _))
  · obtain ⟨its, rv, p, hz⟩ := I1.tuple hq
    refine wpAny_pyIter_tuple (show s1.heap.IsTuple a its.toArray from p) ?_
    refine ⟨s1.heap.objs.size, [s1.heap.objs.size], _, _, H1, rfl, I1.kept (t' := s1.toks) fun b o e => Heap.get?_push_of_some _ e, turn_tuple a _, ⟨_, Heap.get?_push_size _ rfl, rfl, rfl⟩, fun b hb => ?_, q⟩
    have e : b = s1.heap.objs.size := by simpa using hb
    subst e
    exact I1.fpOk (Nat.le_refl _) (I1.hok.fresh (Nat.le_refl _))
theorem di_seq (he : DE X W e f) : DI X W tg e (iOf f) := by
  refine ⟨(pi_seq he.pe).weak fun σ H R h => ?_⟩
  obtain ⟨Z, ι, ρ, ah, hH, hE, h⟩ := h
  refine ⟨Z, ι, ρ, ah, hH, hE, h.bind.mono fun d ah1 ι1 H1 x1 hH1 h v rv => ?_⟩
  cases e : itOf ah1 d with
  | none => rw [e] at h; exact h.elim
  | some iv =>
    rw [e] at h
    have q := h.now hH1
    obtain ⟨a, rfl, ⟨w, hs⟩ | ⟨w, hs, _⟩⟩ := itOf_walk hH1 rv e
    · exact ⟨a, rfl, .inl ⟨hs, q _ (itl_ok w)⟩⟩
    · exact ⟨a, rfl, .inr ⟨hs, q _ (itt_ok w)⟩⟩
/-! ranges -/
def rng (lo : Int) (n : Nat) : List D := (List.range n).map fun (i : Nat) => D.int (lo + (i : Int))
theorem rng_get {lo : Int} {n i : Nat} {d : D} (h : (rng lo n)[i]? = some d) : i < n ∧ d = .int (lo + i) := by
  unfold rng at h
  rw [List.getElem?_map] at h
  by_cases hi : i < n
  · rw [List.getElem?_range hi] at h
    cases h
    exact ⟨hi, rfl⟩
  · rw [List.getElem?_eq_none (by simpa using hi)] at h
    cases h
theorem itr_ok {S : Sr} {Z ι : List Addr} {H : Hp} {lo : Int} {n : Nat} (hn : n ≤ sizeLine) : ItOk S Z ι H (Itr lo n) ⟨rng lo n, []⟩ := by
  refine ⟨by simpa [rng] using hn, fun Z2 ι2 H2 ah2 m x hH hk i d hd => ?_, fun Z2 ι2 H2 ah2 m x hH hk => ?_⟩
  · obtain ⟨hi, rfl⟩ := rng_get hd
    refine ⟨hi, fun y H3 hy => ?_⟩
    obtain ⟨rfl, rfl⟩ := hy
    exact ⟨.refl, hH, .int _, fun _ _ q => q⟩
  · show n ≤ (rng lo n).length
    simp [rng]
def rngOk (j : Int) : Bool := decide (j.natAbs < 2 ^ 62)
theorem rng_bd {j : Int} (h : j.natAbs < 2 ^ 62) : -(2 ^ 62) ≤ j ∧ j < 2 ^ 62 := by omega
def iRange1 (g : SA) : SI := fun ρ ah => (g ρ ah).bind fun ds ah1 => match ds with
  | [.int j] => if rngOk j && decide (j.toNat ≤ sizeLine) = true then .ok ⟨rng 0 j.toNat, []⟩ ah1 else .stuck
  | _ => .stuck
def iRange2 (g : SA) : SI := fun ρ ah => (g ρ ah).bind fun ds ah1 => match ds with
  | [.int i, .int j] => if rngOk i && rngOk j && decide ((j - i).toNat ≤ sizeLine) = true then .ok ⟨rng i (j - i).toNat, []⟩ ah1 else .stuck
  | _ => .stuck
theorem di_range1 {g : SA} {p pos : Pos} (hm : X.mg "range" = none) (ha : DA X W [e1] g) (hg : Gl X "range" := by rfl) (hs : starEach [e1] X.env = [(false, eval e1 X.env)] := by rfl) : DI X W tg (.Call (.Name "range" p) [e1] [] pos) (iRange1 g) := by
  refine ⟨(pi_range1 hg hm ha.pa hs).weak fun σ H R h => ?_⟩
  obtain ⟨Z, ι, ρ, ah, hH, hE, h⟩ := h
  refine ⟨Z, ι, ρ, ah, hH, hE, h.bind.mono fun ds ah1 ι1 H1 x1 hH1 h vs rvs => ?_⟩
  split at h
  · rename_i j
    split at h
    · rename_i hk
      simp only [rngOk, Bool.and_eq_true, decide_eq_true_eq] at hk
      cases rvs with
      | cons r rs =>
        cases rs
        cases r
        exact ⟨j, rfl, (rng_bd hk.1).1, (rng_bd hk.1).2, h.now hH1 _ (itr_ok hk.2)⟩
    · exact h.elim
  · exact h.elim
theorem di_range2 {g : SA} {p pos : Pos} (hm : X.mg "range" = none) (ha : DA X W [e1, e2] g) (hg : Gl X "range" := by rfl) (hs : starEach [e1, e2] X.env = [(false, eval e1 X.env), (false, eval e2 X.env)] := by rfl) (hs2 : starEach [e2] X.env = [(false, eval e2 X.env)] := by rfl) : DI X W tg (.Call (.Name "range" p) [e1, e2] [] pos) (iRange2 g) := by
  refine ⟨(pi_range2 hg hm ha.pa hs hs2).weak fun σ H R h => ?_⟩
  obtain ⟨Z, ι, ρ, ah, hH, hE, h⟩ := h
  refine ⟨Z, ι, ρ, ah, hH, hE, h.bind.mono fun ds ah1 ι1 H1 x1 hH1 h vs rvs => ?_⟩
  split at h
  · rename_i i j
    split at h
    · rename_i hk
      simp only [rngOk, Bool.and_eq_true, decide_eq_true_eq] at hk
      cases rvs with
      | cons r rs =>
        cases rs with
        | cons r2 rs =>
          cases rs
          cases r; cases r2
          exact ⟨i, j, rfl, ⟨(rng_bd hk.1.1).1, (rng_bd hk.1.1).2, (rng_bd hk.1.2).1, (rng_bd hk.1.2).2⟩, h.now hH1 _ (itr_ok hk.2)⟩
    · exact h.elim
  · exact h.elim

/-! ### for -/
noncomputable def forL (held : List (Nat × List D)) (g : SG) (b : SS) : List D → SS
  | [] => fun ρ ah => if heldOk held ah = true then .nx ρ ah else .stuck
  | d :: ds => fun ρ ah => if heldOk held ah = true then (match g d ρ with
    | none => .stuck
    | some ρ1 => match b ρ1 ah with
      | .nx ρ2 ah2 => forL held g b ds ρ2 ah2
      | .ct ρ2 ah2 => forL held g b ds ρ2 ah2
      | .bk ρ2 ah2 => .nx ρ2 ah2
      | o => o) else .stuck
noncomputable def sFor (it : SI) (g : SG) (b : SS) : SS := fun ρ ah => (it ρ ah).out ρ fun iv ah1 => forL iv.held g b iv.items ρ ah1
theorem ds_for {iter : Expr} {body : List Stmt} {it : SI} {g : SG} {b : SS} {vs : List Nat} {pos : Pos} (hp : PassesOwn (model X.prog X.w) X.A X.env X.xe) (hc : X.calm = true) (hi : DI X W tg iter it) (hg : DG X tg g vs) (hb : DSs X W body b)
    (hs : ∀ x, foldedSetIterable iter X.env x = pure x := by intro _; rfl) : DS X W (.For tg iter body [] pos) (sFor it g b) := by
  obtain ⟨tt, pg, gk⟩ := hg.pg
  refine ⟨(ps_for hp hc hi.pi pg hb.pss hs).weak fun D σ H h => ?_⟩
  obtain ⟨Z, ι, ρ, ah, hH, hE, h⟩ := h
  refine ⟨Z, ι, ρ, ah, hH, hE, (h.out hE).mono fun iv ah1 ι1 H1 x1 hH1 h J hJ => ?_⟩
  refine ⟨fun i m σ2 H2 => m = iv.items.length - i ∧ i ≤ iv.items.length ∧ ∃ ι2 ρ2 ah2, Ext ι1 H1 ι2 H2 ∧ RH (sr X) Z ι2 H2 ah2 ∧ RE (sr X) Z ι2 H2 ρ2 σ2 ∧ ResS (sr X) W Z ι2 H2 D (forL iv.held g b (iv.items.drop i) ρ2 ah2),
    ⟨_, rfl, Nat.zero_le _, ι1, ρ, ah1, .refl, hH1, hE.ext x1, by simpa using h⟩, ?_⟩
  rintro i m σ2 H2 ⟨rfl, hi, ι2, ρ2, ah2, x2, hH2, hE2, h2⟩
  by_cases hlt : i < iv.items.length
  · have ed : iv.items.drop i = iv.items[i] :: iv.items.drop (i + 1) := List.drop_eq_getElem_cons hlt
    rw [ed] at h2
    unfold forL at h2
    by_cases hk : heldOk iv.held ah2 = true
    · rw [if_pos hk] at h2
      obtain ⟨go, yl⟩ := hJ.go Z ι2 H2 ah2 (fun a ha => .inl ha) x2 hH2 hk i iv.items[i] (List.getElem?_eq_getElem hlt)
      refine .inr ⟨go, fun σ' H' => ∃ ι3 ρ3 ah3, Ext ι1 H1 ι3 H' ∧ RH (sr X) Z ι3 H' ah3 ∧ RE (sr X) Z ι3 H' ρ3 σ' ∧ ResS (sr X) W Z ι3 H' D (forL iv.held g b (iv.items.drop (i + 1)) ρ3 ah3), fun σ' H' q => ⟨_, by omega, rfl, hlt, q⟩, fun x H3 hy => ?_⟩
      obtain ⟨x3, hH3, rx, _⟩ := yl x H3 hy
      cases e : g iv.items[i] ρ2 with
      | none => rw [e] at h2; exact h2.elim
      | some ρ3 =>
        rw [e] at h2
        refine gk Z ι2 H3 ρ2 ρ3 σ2 iv.items[i] x _ (hE2.ext x3) rx e fun σ3 hE3 _ _ => ?_
        refine ⟨Z, ι2, ρ3, ah2, hH3, hE3, ?_⟩
        have h2 := h2.ext x3
        simp only at h2
        cases e2 : b ρ3 ah2 with
        | nx ρ4 ah4 => rw [e2] at h2; exact fun ι' H' σ' x r1 r2 => ⟨ι', ρ4, ah4, (x2.trans x3).trans x, r1, r2, ResS.ext h2 x⟩
        | ct ρ4 ah4 => rw [e2] at h2; exact fun ι' H' σ' x r1 r2 => ⟨ι', ρ4, ah4, (x2.trans x3).trans x, r1, r2, ResS.ext h2 x⟩
        | bk ρ4 ah4 => rw [e2] at h2; exact h2
        | rt d4 ah4 => rw [e2] at h2; exact h2
        | ex y ρ4 ah4 => rw [e2] at h2; exact h2
        | stuck => rw [e2] at h2; exact h2
    · rw [if_neg hk] at h2; exact h2.elim
  · have e : i = iv.items.length := by omega
    subst e
    rw [List.drop_length] at h2
    unfold forL at h2
    by_cases hk : heldOk iv.held ah2 = true
    · rw [if_pos hk] at h2
      exact .inl ⟨hJ.stop Z ι2 H2 ah2 (fun a ha => .inl ha) x2 hH2 hk, h2 ι2 H2 σ2 .refl hH2 hE2⟩
    · rw [if_neg hk] at h2; exact h2.elim
end
end Qd

set_option Elab.async false
set_option linter.all false
set_option maxRecDepth 100000
set_option maxHeartbeats 2000000
/-! QComp: list comprehensions. -/
namespace Qd
open PySem PySem.Spec L2

def R.nox {α : Type} (r : R α) : R α := match r with
  | .ok a ah => .ok a ah
  | _ => .stuck
@[simp] theorem R.nox_ok {α : Type} (a : α) (ah : List AO) : (R.ok a ah).nox = .ok a ah := rfl
@[simp] theorem R.nox_exc {α : Type} (x : Exn) (ah : List AO) : (R.exc x ah : R α).nox = .stuck := rfl
@[simp] theorem R.nox_stuck {α : Type} : (R.stuck : R α).nox = .stuck := rfl
def wipeD (ρ : Rho) : List Nat → Rho
  | [] => ρ
  | v :: vs => (wipeD ρ vs).set v none
noncomputable def compL (held : List (Nat × List D)) (g : SG) (t f : SE) (ρ : Rho) : List D → List D → List AO → R D
  | [], acc, ah => if heldOk held ah = true then .ok (.lst acc) ah else .stuck
  | d :: ds, acc, ah => if heldOk held ah = true then (match g d ρ with
    | none => .stuck
    | some ρ1 => (t ρ1 ah).nox.bind fun b ah1 => onB b ((f ρ1 ah1).nox.bind fun y ah2 => compL held g t f ρ ds (acc ++ [y]) ah2) (compL held g t f ρ ds acc ah1)) else .stuck
noncomputable def cLc (it : SI) (g : SG) (t f : SE) (vs : List Nat) : SE := fun ρ ah => (it ρ ah).bind fun iv ah1 => compL iv.held g t f (wipeD ρ vs) iv.items [] ah1
abbrev WF : WX := fun _ _ _ _ => False

theorem RE.more {S : Sr} {Z ι ι' Z2 : List Addr} {H H' : Hp} {ρ : Rho} {σ : L2.St} (h : RE S Z ι H ρ σ) (x : Ext ι H ι' H') (m : Zmore Z H Z2) : RE S Z2 ι' H' ρ σ :=
  ⟨h.len, fun i d e => let ⟨v, h1, h2⟩ := h.at_ i d e; ⟨v, h1, h2.more x m⟩⟩
theorem RE.wipe {S : Sr} {Z ι : List Addr} {H : Hp} {ρ : Rho} {σ : L2.St} (h : RE S Z ι H ρ σ) : ∀ vs : List Nat, RE S Z ι H (wipeD ρ vs) (wipe σ vs)
  | [] => h
  | v :: vs => by unfold wipeD L2.wipe; exact (RE.wipe h vs).unset v
theorem wipe_in {σ : L2.St} {i : Nat} : ∀ {vs : List Nat}, i ∈ vs → i < σ.length → (wipe σ vs)[i]? = some none
  | [], h, _ => by simp at h
  | v :: vs, h, hl => by
    unfold L2.wipe
    by_cases e : v = i
    · subst e
      rw [List.getElem?_set_self (by rw [wipe_length]; exact hl)]
    · rw [List.getElem?_set_ne e]
      exact wipe_in (by rcases List.mem_cons.mp h with q | q; exact absurd q.symm e; exact q) hl
theorem wipe_same {σ σ2 : L2.St} {vs ws : List Nat} (hl : σ2.length = (wipe σ vs).length) (hs : ∀ j, j ∉ ws → σ2[j]? = (wipe σ vs)[j]?) (hw : ∀ j, j ∈ ws → j ∈ vs) : wipe σ2 vs = wipe σ vs := by
  rw [wipe_length] at hl
  apply List.ext_getElem?
  intro j
  by_cases hj : j ∈ vs
  · by_cases hlt : j < σ.length
    · rw [wipe_in hj hlt, wipe_in hj (by rw [hl]; exact hlt)]
    · rw [List.getElem?_eq_none (by rw [wipe_length]; omega), List.getElem?_eq_none (by rw [wipe_length]; omega)]
  · rw [wipe_out hj, hs j fun z => hj (hw j z)]
theorem RVs.sub {K : PySem.W.Frag} {Z ι Z2 : List Addr} {H : Hp} (m : ∀ a, a ∈ Z2 → a ∈ Z) {ds : List D} {vs : List V} (h : RVs K Z ι H ds vs) : RVs K Z2 ι H ds vs := h.more .refl fun a ha => .inl (m a ha)
theorem RO.sub {S : Sr} {Z ι Z2 : List Addr} {H : Hp} {o : AO} {a : Addr} (m : ∀ a, a ∈ Z2 → a ∈ Z) (h : RO S Z ι H o a) : RO S Z2 ι H o a := by
  cases o with
  | lst ds => obtain ⟨xs, h, l, r⟩ := h; exact ⟨xs, h, l, r.sub m⟩
  | obj c fs => obtain ⟨C, dx, vs, g, h, nd, r⟩ := h; exact ⟨C, dx, vs, g, h, nd, r.sub m⟩
theorem RH.sub {S : Sr} {Z ι Z2 : List Addr} {H : Hp} {ah : List AO} (m : ∀ a, a ∈ Z2 → a ∈ Z) (h : RH S Z ι H ah) : RH S Z2 ι H ah :=
  ⟨h.nd, h.len, fun n a o h1 h2 => (h.at_ n a o h1 h2).sub m, fun a ha => h.z a (m a ha), h.tb⟩
/-- a thing of others is changed -/
theorem RV.other {K : PySem.W.Frag} {Z ι : List Addr} {H : Hp} {b : Addr} {o : HO} (hb : b ∈ Z) {d : D} {v : V} (h : RV K Z ι H d v) : RV K Z ι (upd H b o) d v := by
  exact RV.rec (motive_1 := fun d v _ => RV K Z ι (upd H b o) d v) (motive_2 := fun ds vs _ => RVs K Z ι (upd H b o) ds vs)
    .non (fun b => .bl b) (fun i => .int i) (fun x h => .str x h) (fun h => .ref h)
    (fun {a ns} f l => .scr (by
      rcases f with ⟨⟨n1, n2⟩, q⟩ | q
      · have e : a ≠ b := fun z => n2 (by rw [z]; exact hb)
        exact .inl ⟨⟨n1, n2⟩, by rcases q with q | ⟨u, q⟩; exact .inl (by rw [upd_ne e]; exact q); exact .inr ⟨u, by rw [upd_ne e]; exact q⟩⟩
      · exact .inr q) l)
    (fun n1 n2 h l r ih => .lst n1 n2 (by rw [upd_ne (fun z => n2 (by rw [z]; exact hb))]; exact h) l ih)
    (fun {a xs ds} f l r ih => .tup (by
      rcases f with ⟨⟨n1, n2⟩, q⟩ | q
      · have e : a ≠ b := fun z => n2 (by rw [z]; exact hb)
        exact .inl ⟨⟨n1, n2⟩, by rcases q with q | ⟨u, q⟩; exact .inl (by rw [upd_ne e]; exact q); exact .inr ⟨u, by rw [upd_ne e]; exact q⟩⟩
      · exact .inr q) l ih)
    .nil (fun h t i1 i2 => .cons i1 i2) h
theorem RVs.other {K : PySem.W.Frag} {Z ι : List Addr} {H : Hp} {b : Addr} {o : HO} (hb : b ∈ Z) : ∀ {ds : List D} {vs : List V}, RVs K Z ι H ds vs → RVs K Z ι (upd H b o) ds vs
  | _, _, .nil => .nil
  | _, _, .cons h t => .cons (h.other hb) (RVs.other hb t)
theorem RH.other {S : Sr} {Z ι : List Addr} {H : Hp} {ah : List AO} {b : Addr} {o : HO} (h : RH S Z ι H ah) (hb : b ∈ Z) (nt : NT o) : RH S Z ι (upd H b o) ah := by
  have hn := (h.z b hb).1
  obtain ⟨_, u0, eu0, nu0⟩ := h.z b hb
  refine ⟨h.nd, h.len, fun n a u h1 h2 => ?_, fun a ha => ⟨(h.z a ha).1, ?_⟩, tb_set h.tb eu0 nu0⟩
  · have e : a ≠ b := fun z => hn (by rw [← z]; exact List.mem_of_getElem? h1)
    have r := h.at_ n a u h1 h2
    cases u with
    | lst ds => obtain ⟨xs, h, l, r⟩ := r; exact ⟨xs, by rw [upd_ne e]; exact h, l, r.other hb⟩
    | obj c fs => obtain ⟨C, dx, vs, g, h, nd, r⟩ := r; exact ⟨C, dx, vs, g, by rw [upd_ne e]; exact h, nd, r.other hb⟩
  · by_cases e : a = b
    · rw [e, upd_same]; exact ⟨_, rfl, nt⟩
    · rw [upd_ne e]; exact (h.z a ha).2
theorem RH.lift {S : Sr} {Z ι : List Addr} {H : Hp} {ah : List AO} {b : Addr} {o : HO} (h : RH S Z ι H ah) (hb : H b = none) (nt : NT o) : RH S (b :: Z) ι (upd H b o) ah := by
  have m : Zmore Z H (b :: Z) := fun a ha => by
    rcases List.mem_cons.mp ha with q | q
    · rw [q]; exact .inr hb
    · exact .inl q
  refine ⟨h.nd, h.len, fun n a u h1 h2 => ?_, fun a ha => ?_, tb_new h.tb hb⟩
  · have r := h.at_ n a u h1 h2
    obtain ⟨w, e⟩ := r.tr
    have ne : a ≠ b := ne_of_none e hb
    cases u with
    | lst ds => obtain ⟨xs, h, l, r⟩ := r; exact ⟨xs, by rw [upd_ne ne]; exact h, l, r.more (ext_new hb) m⟩
    | obj c fs => obtain ⟨C, dx, vs, g, h, nd, r⟩ := r; exact ⟨C, dx, vs, g, by rw [upd_ne ne]; exact h, nd, r.more (ext_new hb) m⟩
  · rcases List.mem_cons.mp ha with q | q
    · rw [q, upd_same]; exact ⟨(h.fresh hb).1, _, rfl, nt⟩
    · obtain ⟨z1, w, e, nt'⟩ := h.z a q
      exact ⟨z1, w, by rw [upd_ne (ne_of_none e hb)]; exact e, nt'⟩
theorem ext_priv {ι1 ι2 : List Addr} {H1 H : Hp} {b : Addr} {o : HO} (x : Ext ι1 H1 ι2 H) (hb : H1 b = none) : Ext ι1 H1 ι2 (upd H b o) :=
  ⟨x.pre, fun a u h ht hn => by rw [upd_ne (ne_of_none h hb)]; exact x.keep a u h ht hn, x.new⟩

structure DTs (X : Cx) (W : WX) (ifs : List Expr) (f : SE) : Prop where
  pt : PTs X ifs (tOfT (sr X) W f)
def cYes : SE := fun _ ah => .ok (.bl true) ah
section
variable {X : Cx} {W : WX} {tg elt iter c e : Expr} {ifs : List Expr} {scope : Scope} {own : List (Str × Nat)} {pos : Pos} {it : SI} {g : SG} {t f : SE} {vs : List Nat}
theorem dts_nil : DTs X W [] cYes := by
  refine ⟨⟨fun pins s σ H Q I h => pts_nil.run pins s σ H Q I ?_⟩⟩
  obtain ⟨Z, ι, ρ, ah, hH, hE, h⟩ := h
  obtain ⟨b, e, q⟩ := h.now hH
  cases e
  exact q
theorem dts_one (h : DT X W c f) : DTs X W [c] f := ⟨pts_one h.pt⟩
/-- a target within a comprehension's block -/
structure DGB (X : Cx) (scope : Scope) (tg : Expr) (g : SG) (vs : List Nat) : Prop where
  pg : ∃ t : TG, (∀ (s : Shared) (H : Hp) (C : Addr) (cl : List (Str × Addr)) (fp : List Addr), PG (X.blk s H scope (compEnvC scope cl C X.env) fp) tg t) ∧ GOk X.K X.mg g vs t
theorem dgb_name (i : Nat) (h : ∀ (s : Shared) (H : Hp) (C : Addr) (cl : List (Str × Addr)) (fp : List Addr), PG (X.blk s H scope (compEnvC scope cl C X.env) fp) tg (gName i)) : DGB X scope tg (gNm i) [i] := by
  refine ⟨gName i, h, fun Z ι H ρ ρ' σ d v Q hE rv e h => ?_⟩
  cases e
  refine h _ (hE.set rv i) (by simp) fun j hj => ?_
  rw [List.getElem?_set_ne (fun z => hj (by simp [z]))]
theorem lc_run {tt : TG} (gk : GOk X.K X.mg g vs tt) (hv : ∀ j, j ∈ vs → j ∈ own.map (·.2)) {σ : L2.St} {H : Hp} {Q : VK} (h : tOf (sr X) W (cLc it g t f (own.map (·.2))) σ H Q) :
    tLc (tIt (sr X) W it) tt (tOfT (sr X) WF t) (tOf (sr X) WF f) (own.map (·.2)) σ H Q := by
  obtain ⟨Z, ι, ρ, ah, hH, hE, h⟩ := h
  refine ⟨Z, ι, ρ, ah, hH, hE, h.bind.mono fun iv ah1 ι1 H1 x1 hH1 h J hJ => ?_⟩
  intro D hD
  have hE1 := hE.ext x1
  have zm : Zmore Z H1 (D :: Z) := fun a ha => by
    rcases List.mem_cons.mp ha with q | q
    · rw [q]; exact .inr hD
    · exact .inl q
  have dz : D ∈ D :: Z := List.mem_cons_self
  refine ⟨fun i m H2 => m = iv.items.length - i ∧ i ≤ iv.items.length ∧ ∃ ι2 ah2 acc accv, Ext ι1 H1 ι2 H2 ∧ RH (sr X) (D :: Z) ι2 H2 ah2 ∧ H2 D = some (.lst accv) ∧ RVs X.K (D :: Z) ι2 H2 acc accv ∧ accv.length ≤ i ∧
      ResP (sr X) W Z ι1 H1 σ (fun d _ ι' H' => ∀ v, RV X.K Z ι' H' d v → Q v H') (compL iv.held g t f (wipeD ρ (own.map (·.2))) (iv.items.drop i) acc ah2),
    ⟨_, rfl, Nat.zero_le _, ι1, ah1, [], [], ext_new hD, hH1.lift hD trivial, upd_same, .nil, Nat.zero_le _, by simpa using h⟩, ?_⟩
  rintro i m H2 ⟨rfl, hi, ι2, ah2, acc, accv, x2, hH2, hd, hr, hl, h2⟩
  by_cases hlt : i < iv.items.length
  · have ed : iv.items.drop i = iv.items[i] :: iv.items.drop (i + 1) := List.drop_eq_getElem_cons hlt
    rw [ed] at h2
    unfold compL at h2
    by_cases hk : heldOk iv.held ah2 = true
    · rw [if_pos hk] at h2
      obtain ⟨go, yl⟩ := hJ.go (D :: Z) ι2 H2 ah2 zm x2 hH2 hk i iv.items[i] (List.getElem?_eq_getElem hlt)
      refine .inr ⟨go, fun H3 => i + 1 ≤ iv.items.length ∧ ∃ ι3 ah3 acc accv, Ext ι1 H1 ι3 H3 ∧ RH (sr X) (D :: Z) ι3 H3 ah3 ∧ H3 D = some (.lst accv) ∧ RVs X.K (D :: Z) ι3 H3 acc accv ∧ accv.length ≤ i + 1 ∧
        ResP (sr X) W Z ι1 H1 σ (fun d _ ι' H' => ∀ v, RV X.K Z ι' H' d v → Q v H') (compL iv.held g t f (wipeD ρ (own.map (·.2))) (iv.items.drop (i + 1)) acc ah3), fun H' q => ⟨_, by omega, rfl, q⟩, fun x H3 hy => ?_⟩
      obtain ⟨x3, hH3, rx, kp⟩ := yl x H3 hy
      cases e : g iv.items[i] (wipeD ρ (own.map (·.2))) with
      | none => rw [e] at h2; exact h2.elim
      | some ρ1 =>
        rw [e] at h2
        simp only at h2
        have hE3 : RE (sr X) (D :: Z) ι2 H3 (wipeD ρ (own.map (·.2))) (wipe σ (own.map (·.2))) := (hE1.more (x2.trans x3) zm).wipe _
        refine gk (D :: Z) ι2 H3 _ ρ1 _ iv.items[i] x _ hE3 rx e fun σ3 hE4 hl3 hs3 => ?_
        refine ⟨wipe_same hl3 hs3 hv, D :: Z, ι2, ρ1, ah2, hH3, hE4, ?_⟩
        cases e1 : t ρ1 ah2 with
        | exc y ah3 => rw [e1] at h2; exact h2.elim
        | stuck => rw [e1] at h2; exact h2.elim
        | ok b ah3 =>
          rw [e1] at h2
          simp only [R.nox_ok, R.bind_ok] at h2
          intro ι4 H4 x4 hH4
          have hd4 : H4 D = some (.lst accv) := x4.keep D _ (kp D _ hd) rfl (hH3.z D dz).1
          have hr4 : RVs X.K (D :: Z) ι4 H4 acc accv := hr.ext (x3.trans x4)
          rcases onB_cases h2 (fun z => z) with ⟨rfl, h2⟩ | ⟨rfl, h2⟩
          · refine ⟨true, rfl, iteT ⟨D :: Z, ι4, ρ1, ah3, hH4, hE4.ext x4, ?_⟩⟩
            cases e2 : f ρ1 ah3 with
            | exc y ah4 => rw [e2] at h2; exact h2.elim
            | stuck => rw [e2] at h2; exact h2.elim
            | ok y ah4 =>
              rw [e2] at h2
              simp only [R.nox_ok, R.bind_ok] at h2
              intro ι5 H5 x5 hH5 v rv
              have hd5 : H5 D = some (.lst accv) := x5.keep D _ hd4 rfl (hH4.z D dz).1
              refine ⟨accv, hd5, Nat.lt_of_le_of_lt hl (Nat.lt_of_lt_of_le hlt hJ.small), hlt, ι5, ah4, acc ++ [y], accv ++ [v], ext_priv (((x2.trans x3).trans x4).trans x5) hD, hH5.other dz trivial, upd_same, ?_, ?_, h2⟩
              · exact ((hr4.ext x5).append (.one rv)).other dz
              · rw [List.length_append]; exact Nat.succ_le_succ hl
          · exact ⟨false, rfl, iteF ⟨hlt, ι4, ah3, acc, accv, (x2.trans x3).trans x4, hH4, hd4, hr4, Nat.le_succ_of_le hl, h2⟩⟩
    · rw [if_neg hk] at h2; exact h2.elim
  · have e : i = iv.items.length := by omega
    subst e
    rw [List.drop_length] at h2
    unfold compL at h2
    by_cases hk : heldOk iv.held ah2 = true
    · rw [if_pos hk] at h2
      have sub : ∀ a, a ∈ Z → a ∈ D :: Z := fun a ha => List.mem_cons_of_mem _ ha
      refine .inl ⟨hJ.stop (D :: Z) ι2 H2 ah2 zm x2 hH2 hk, h2 ι2 H2 x2 (hH2.sub sub) (.ref D) ?_⟩
      exact .lst (hH2.z D dz).1 (hH1.fresh hD).2 hd (Nat.le_trans hl hJ.small) (hr.sub sub)
    · rw [if_neg hk] at h2; exact h2.elim
theorem de_lc (hc : X.calm = true) (hN : X.N.Nodup) (hi : DI X W tg iter it) (ok : BlkOk X.N X.env.scope scope own) (hg : DGB X scope tg g vs)
    (ht : ∀ (s : Shared) (H : Hp) (C : Addr) (cl : List (Str × Addr)) (fp : List Addr), DTs (X.blk s H scope (compEnvC scope cl C X.env) fp) WF ifs t)
    (he : ∀ (s : Shared) (H : Hp) (C : Addr) (cl : List (Str × Addr)) (fp : List Addr), DE (X.blk s H scope (compEnvC scope cl C X.env) fp) WF elt f)
    (hv : ∀ j, j ∈ vs → j ∈ own.map (·.2) := by decide) (hs : ∀ x, foldedSetIterable iter X.env x = pure x := by intro _; rfl) : DE X W (.ListComp elt [⟨tg, iter, ifs, 0⟩] scope pos) (cLc it g t f (own.map (·.2))) := by
  obtain ⟨tt, pg, gk⟩ := hg.pg
  exact ⟨(pe_lc hc hN hi.pi ok pg (fun s H C cl fp => (ht s H C cl fp).pt) (fun s H C cl fp => (he s H C cl fp).pe) hs).weak fun σ H Q h => lc_run gk hv h⟩
theorem ds_setLc (i : Nat) {y : Str} {py spos : Pos} (hc : X.calm = true) (hN : X.N.Nodup) (hi : DI X W tg iter it) (ok : BlkOk X.N X.env.scope scope own) (hg : DGB X scope tg g vs)
    (ht : ∀ (s : Shared) (H : Hp) (C : Addr) (cl : List (Str × Addr)) (fp : List Addr), DTs (X.blk s H scope (compEnvC scope cl C X.env) fp) WF ifs t)
    (he : ∀ (s : Shared) (H : Hp) (C : Addr) (cl : List (Str × Addr)) (fp : List Addr), DE (X.blk s H scope (compEnvC scope cl C X.env) fp) WF elt f)
    (hsw : swapsWith (.ListComp elt [⟨tg, iter, ifs, 0⟩] scope pos) (some (.Name y py)) spos.line X.env = pure true) (hy : X.N[i]? = some y := by rfl) (hyl : X.env.scope.names.lookup y = some .local := by rfl)
    (hv : ∀ j, j ∈ vs → j ∈ own.map (·.2) := by decide) (hs : ∀ x, foldedSetIterable iter X.env x = pure x := by intro _; rfl) :
    DS X W (.Assign [.Name y py] (.ListComp elt [⟨tg, iter, ifs, 0⟩] scope pos) spos) (sAsg (cLc it g t f (own.map (·.2))) (gNm i)) := by
  obtain ⟨tt, pg, gk⟩ := hg.pg
  refine ⟨(ps_setLc (tt := tOfT (sr X) WF t) (te := tOf (sr X) WF f) hc hN hy hyl hsw hi.pi ok pg (fun s H C cl fp => (ht s H C cl fp).pt) (fun s H C cl fp => (he s H C cl fp).pe) hs).weak fun D σ H h => ?_⟩
  have a := asg_run (K := X.K) (mg := X.mg) (vs := [i]) (t := gName i) (fun Z ι H ρ ρ' σ d v Q hE rv e h => by
    cases e
    refine h _ (hE.set rv i) (by simp) fun j hj => ?_
    rw [List.getElem?_set_ne (fun z => hj (by simp [z]))]) h
  exact lc_run gk hv a
end
end Qd

set_option Elab.async false
set_option linter.all false
set_option maxRecDepth 100000
set_option maxHeartbeats 2000000
/-! QCall: what a def promises; calls. -/
namespace Qd
open PySem PySem.Spec L2

abbrev FF := List D → List AO → R D
def spF (S : Sr) (n : Nat) (F : FF) : Sp := fun vs H Q E => vs.length = n ∧ ∃ Z ι ds ah, RH S Z ι H ah ∧ RVs S.K Z ι H ds vs ∧
  ResP S (fun cls dx _ H' => E cls dx H') Z ι H [] (fun d _ ι' H' => ∀ v, RV S.K Z ι' H' d v → Q v H') (F ds ah)
def endF (o : Out) : R D := match o with
  | .rt d ah' => .ok d ah'
  | .nx _ ah' => .ok .non ah'
  | .ex x _ ah' => .exc x ah'
  | _ => .stuck
@[simp] theorem endF_rt (d : D) (ah : List AO) : endF (.rt d ah) = .ok d ah := rfl
@[simp] theorem endF_nx (ρ : Rho) (ah : List AO) : endF (.nx ρ ah) = .ok .non ah := rfl
@[simp] theorem endF_ex (x : Exn) (ρ : Rho) (ah : List AO) : endF (.ex x ρ ah) = .exc x ah := rfl
@[simp] theorem endF_stuck : endF .stuck = .stuck := rfl
/-- a def with k slots -/
def runF (k : Nat) (s : SS) : FF := fun ds ah => endF (s (ds.map some ++ List.replicate (k - ds.length) none) ah)
section
variable {S : Sr} {Z ι : List Addr} {H : Hp} {ah : List AO}
theorem re_start {ds : List D} {vs : List V} (r : RVs S.K Z ι H ds vs) (k : Nat) : RE S Z ι H (ds.map some ++ List.replicate (k - ds.length) none) (vs.map some ++ List.replicate (k - vs.length) none) := by
  have e := r.length
  refine ⟨by simp [e], fun i d h => ?_⟩
  by_cases hi : i < ds.length
  · rw [List.getElem?_append_left (by simpa using hi), List.getElem?_map] at h
    cases q : ds[i]? with
    | none => rw [q] at h; cases h
    | some d' =>
      rw [q] at h
      cases h
      obtain ⟨v, h1, h2⟩ := r.get q
      refine ⟨v, ?_, h2⟩
      rw [List.getElem?_append_left (by simpa [← e] using hi), List.getElem?_map, h1]
      rfl
  · rw [List.getElem?_append_right (by simpa using hi), List.getElem?_replicate] at h
    split at h <;> cases h
theorem ResP.wish {α : Type} {W W' : WX} {σ σ' : L2.St} {P : α → List AO → List Addr → Hp → Prop} {r : R α} (h : ResP S W Z ι H σ P r) (k : ∀ cls dx H', W cls dx σ H' → W' cls dx σ' H') : ResP S W' Z ι H σ' P r := by
  cases r with
  | ok a ah' => exact h
  | exc x ah' => exact fun cls dx ι' H' x1 r1 r2 => k _ _ _ (h cls dx ι' H' x1 r1 r2)
  | stuck => exact h
end
section
variable {P : Program} {w : World} {K : PySem.W.Frag} {mg : Str → Option Value} {base : Heap}
/-- the context of a def's body -/
abbrev cxD (P : Program) (w : World) (K : PySem.W.Frag) (mg : Str → Option Value) (base : Heap) (N : List Str) (qual : Str) (st : Stmt) (f : Addr) (cdv : Value) (A : Around) (outer : List Env) (s : Shared) (H : Hp) (E : XK) : Cx :=
  cxOf (L2.CX P w) P w K mg base N qual (defScope st) f cdv A outer s H E
abbrev wxE (E : XK) : WX := fun cls d _ H => E cls d H
theorem cxD_takes {N : List Str} {qual : Str} {st : Stmt} {f : Addr} {cdv : Value} {A : Around} {outer : List Env} {s : Shared} {H : Hp} {E : XK} : Takes (cxD P w K mg base N qual st f cdv A outer s H E) (wxE E) := takes_of rfl rfl rfl rfl
theorem cxD_pass {N : List Str} {qual : Str} {st : Stmt} {f : Addr} {cdv : Value} {A : Around} {outer : List Env} {s : Shared} {H : Hp} {E : XK} :
    PassesOwn (model (cxD P w K mg base N qual st f cdv A outer s H E).prog (cxD P w K mg base N qual st f cdv A outer s H E).w) (cxD P w K mg base N qual st f cdv A outer s H E).A (cxD P w K mg base N qual st f cdv A outer s H E).env (cxD P w K mg base N qual st f cdv A outer s H E).xe := passes_of rfl
abbrev Fn (P : Program) (w : World) (K : PySem.W.Frag) (mg : Str → Option Value) (base : Heap) (k : Nat) (f : Addr) (fd : FuncData) (ps : List Str) (F : FF) : Prop := FnOk P w K mg base (L2.CX P w) k f fd ps (spF ⟨K, mg⟩ ps.length F)
theorem fn_run {x qual : Str} {st : Stmt} {f : Addr} {fd : FuncData} {N ps : List Str} {k : Nat} {s : SS} (F : Fun K x qual st f fd) (S : FnScope N ps (defScope st))
    (body : ∀ (cdv : Value) (A : Around) (outer : List Env) (s0 : Shared) (H : Hp) (E : XK), Room k (A.deeper (PyProof.Rows.envOfC qual (defScope st) s0.heap.objs.size f cdv)) → DSs (cxD P w K mg base N qual st f cdv A outer s0 H E) (wxE E) (defBody st) s) :
    Fn P w K mg base (k + 1) f fd ps (runF N.length s) := by
  refine F.okX S (fun vs H Q E h => h.1) (fun cdv A outer s0 H vs Q E hr h => ⟨_, (body cdv A outer s0 H E hr).pss, ?_⟩)
  obtain ⟨hl, Z, ι, ds, ah, hH, hv, h⟩ := h
  refine ⟨Z, ι, _, ah, hH, re_start hv N.length, ?_⟩
  unfold runF at h
  cases e : s (ds.map some ++ List.replicate (N.length - ds.length) none) ah with
  | rt d ah' => rw [e] at h; exact fun ι' H' v x r1 r2 => h ι' H' x r1 v r2
  | nx ρ ah' => rw [e] at h; exact fun ι' H' σ' x r1 r2 => h ι' H' x r1 .non .non
  | bk ρ ah' => rw [e] at h; exact h.elim
  | ct ρ ah' => rw [e] at h; exact h.elim
  | ex y ρ ah' => rw [e] at h; exact fun cls dx ι' H' σ' x r1 r2 r3 => h cls dx ι' H' x r1 r3
  | stuck => rw [e] at h; exact h.elim
end

/-! ### what goes into a call and comes out -/
/-- lists that may change go in as they stand -/
def snap (ah : List AO) (d : D) : Option D := match d with
  | .ref n => match ah[n]? with
    | some (.lst ds) => if D.nrs ds = true then some (.lst ds) else none
    | _ => none
  | .scr ns => some (.scr ns)
  | d => if d.nr = true then some d else none
/-- nothing that may change goes in -/
def calmD (d : D) : Bool := match d with
  | .scr _ => true
  | d => d.nr
theorem snap_calm {ah : List AO} {d : D} (h : calmD d = true) : snap ah d = some d := by
  cases d with
  | ref n => simp [calmD, D.nr] at h
  | scr ns => rfl
  | _ => simpa [calmD, snap] using h
def snaps (ah : List AO) : List D → Option (List D)
  | [] => some []
  | d :: ds => (snap ah d).bind fun e => (snaps ah ds).bind fun es => some (e :: es)
theorem snaps_calm {ah : List AO} : ∀ {ds : List D}, ds.all calmD = true → snaps ah ds = some ds
  | [], _ => rfl
  | d :: ds, h => by
    rw [List.all_cons, Bool.and_eq_true] at h
    simp [snaps, snap_calm h.1, snaps_calm h.2]
section
variable {K : PySem.W.Frag} {Z ι Z2 ι2 : List Addr} {H : Hp}
theorem FzT.re {a : Addr} {xs : List V} (h : FzT K Z ι H a xs) (k : ∀ o, H a = some o → ¬ NT o → a ∉ ι2 ∧ a ∉ Z2) : FzT K Z2 ι2 H a xs := by
  rcases h with ⟨⟨n1, n2⟩, h⟩ | h
  · refine .inl ⟨?_, h⟩
    rcases h with h | ⟨o, h⟩
    · exact k _ h fun z => z
    · exact k _ h fun z => z
  · exact .inr h
mutual
/-- without references, seen from elsewhere: its tuples and locked things are as they are; its lists too -/
theorem RV.re (k : ∀ a o, H a = some o → ¬ NT o → a ∉ ι2 ∧ a ∉ Z2) (m : ∀ a, a ∉ ι → a ∉ Z → a ∉ ι2 ∧ a ∉ Z2) : ∀ {d : D} {v : V}, RV K Z ι H d v → calmD d = true → RV K Z2 ι2 H d v
  | _, _, .non, _ => .non
  | _, _, .bl b, _ => .bl b
  | _, _, .int i, _ => .int i
  | _, _, .str z h, _ => .str z h
  | _, _, .scr h l, _ => .scr (by
      rcases h with ⟨⟨n1, n2⟩, q⟩ | q
      · exact .inl ⟨⟨(m _ n1 n2).1, (m _ n1 n2).2⟩, q⟩
      · exact .inr q) l
  | _, _, .ref h, q => by simp [calmD, D.nr] at q
  | _, _, .lst n1 n2 h l r, q => .lst (m _ n1 n2).1 (m _ n1 n2).2 h l (RVs.re k m r (by simpa [calmD, D.nr] using q))
  | _, _, .tup h l r, q => .tup (h.re fun o e => k _ o e) l (RVs.re k m r (by simpa [calmD, D.nr] using q))
theorem RVs.re (k : ∀ a o, H a = some o → ¬ NT o → a ∉ ι2 ∧ a ∉ Z2) (m : ∀ a, a ∉ ι → a ∉ Z → a ∉ ι2 ∧ a ∉ Z2) : ∀ {ds : List D} {vs : List V}, RVs K Z ι H ds vs → D.nrs ds = true → RVs K Z2 ι2 H ds vs
  | _, _, .nil, _ => .nil
  | _, _, @RVs.cons _ _ _ _ d v ds vs h t, q => by
    rw [D.nrs, Bool.and_eq_true] at q
    exact .cons (RV.re k m h (by cases d <;> simp_all [calmD, D.nr])) (RVs.re k m t q.2)
end
mutual
/-- without references and lists -/
theorem RV.reT (k : ∀ a o, H a = some o → ¬ NT o → a ∉ ι2 ∧ a ∉ Z2) : ∀ {d : D} {v : V}, RV K Z ι H d v → d.nl = true → RV K Z2 ι2 H d v
  | _, _, .non, _ => .non
  | _, _, .bl b, _ => .bl b
  | _, _, .int i, _ => .int i
  | _, _, .str z h, _ => .str z h
  | _, _, .scr h l, q => by simp [D.nl] at q
  | _, _, .ref h, q => by simp [D.nl] at q
  | _, _, .lst n1 n2 h l r, q => by simp [D.nl] at q
  | _, _, .tup h l r, q => .tup (h.re fun o e => k _ o e) l (RVs.reT k r (by simpa [D.nl] using q))
theorem RVs.reT (k : ∀ a o, H a = some o → ¬ NT o → a ∉ ι2 ∧ a ∉ Z2) : ∀ {ds : List D} {vs : List V}, RVs K Z ι H ds vs → D.nls ds = true → RVs K Z2 ι2 H ds vs
  | _, _, .nil, _ => .nil
  | _, _, .cons h t, q => by
    rw [D.nls, Bool.and_eq_true] at q
    exact .cons (RV.reT k h q.1) (RVs.reT k t q.2)
end
end
/-- what comes out: new, or of the calm that went in -/
def outOk (calm : Bool) (d : D) : Bool := if calm then d.nr else d.nl
def outsOk (calm : Bool) (ds : List D) : Bool := if calm then D.nrs ds else D.nls ds
/-- a call from which nothing that may change is reached -/
def outD (h : List AO) (d : D) : D := match d with
  | .ref k => match h[k]? with
    | some (.lst ds) => .lst ds
    | _ => .ref k
  | d => d
@[simp] theorem outD_nr {h : List AO} {d : D} (e : d.nr = true) : outD h d = d := by
  cases d with
  | ref k => simp [D.nr] at e
  | _ => rfl
def pureR (ah : List AO) (calm : Bool) (r : R D) : R D := match r with
  | .ok d h => if outOk calm (outD h d) = true then .ok (outD h d) ah else .stuck
  | .exc x _ => if outsOk calm (x.fs.map (·.2)) = true then .exc x ah else .stuck
  | .stuck => .stuck
def cCallP (n : Nat) (F : FF) (g : SA) : SE := fun ρ ah => (g ρ ah).bind fun ds ah1 => if ds.length = n then (match snaps ah1 ds with
  | some es => pureR ah1 (ds.all calmD) (F es [])
  | none => .stuck) else .stuck
/-- a call that may change what is handed in -/
def cCallG (n : Nat) (F : FF) (g : SA) : SE := fun ρ ah => (g ρ ah).bind fun ds ah1 => if ds.length = n then F ds ah1 else .stuck
/-- a call that hands back a new thing that is changed later -/
def newR (ah : List AO) (calm : Bool) (r : R D) : R D := match r with
  | .ok (.ref k) h' => match h'[k]? with
    | some (.lst ds) => if outsOk calm ds = true then .ok (.ref ah.length) (ah ++ [.lst ds]) else .stuck
    | _ => .stuck
  | .exc x _ => if outsOk calm (x.fs.map (·.2)) = true then .exc x ah else .stuck
  | _ => .stuck
def cCallN (n : Nat) (F : FF) (g : SA) : SE := fun ρ ah => (g ρ ah).bind fun ds ah1 => if ds.length = n then (match snaps ah1 ds with
  | some es => newR ah1 (ds.all calmD) (F es [])
  | none => .stuck) else .stuck
section
variable {S : Sr} {Z ι : List Addr} {H : Hp} {ah : List AO}
/-- what the callee may not touch -/
def Zin (calm : Bool) (Z ι : List Addr) : List Addr := if calm then Z ++ ι else []
theorem nt_out (hH : RH S Z ι H ah) : ∀ a o, H a = some o → ¬ NT o → a ∉ ι ∧ a ∉ Z := fun a o e h => by
  refine ⟨fun q => ?_, fun q => ?_⟩
  · obtain ⟨u, e', nt⟩ := hH.trN q
    rw [e] at e'; cases e'; exact h nt
  · obtain ⟨_, u, e', nt⟩ := hH.z a q
    rw [e] at e'; cases e'; exact h nt
theorem rh_in (hH : RH S Z ι H ah) (calm : Bool) : RH S (Zin calm Z ι) [] H [] := by
  refine ⟨List.nodup_nil, rfl, fun n a o h => by simp at h, fun a ha => ⟨by simp, ?_⟩, hH.tb⟩
  cases calm with
  | false => simp [Zin] at ha
  | true =>
    rcases List.mem_append.mp (show a ∈ Z ++ ι from ha) with q | q
    · exact (hH.z a q).2
    · exact hH.trN q
theorem snap_in (hH : RH S Z ι H ah) {d e : D} {v : V} (r : RV S.K Z ι H d v) (h : snap ah d = some e) (c : Bool) (hc : c = true → calmD d = true) : RV S.K (Zin c Z ι) [] H e v := by
  have nt := nt_out hH
  cases c with
  | true =>
    have q := hc rfl
    rw [snap_calm q] at h
    cases h
    refine r.re (fun a o e1 e2 => ⟨by simp, fun z => ?_⟩) (fun a n1 n2 => ⟨by simp, fun z => ?_⟩) q
    · rcases List.mem_append.mp (show a ∈ Z ++ ι from z) with z | z
      · exact (nt a o e1 e2).2 z
      · exact (nt a o e1 e2).1 z
    · rcases List.mem_append.mp (show a ∈ Z ++ ι from z) with z | z
      · exact n2 z
      · exact n1 z
  | false =>
    show RV S.K [] [] H e v
    have any : ∀ {d : D} {v : V}, RV S.K Z ι H d v → calmD d = true → RV S.K [] [] H d v := fun r q => r.re (fun a o _ _ => ⟨by simp, by simp⟩) (fun a _ _ => ⟨by simp, by simp⟩) q
    by_cases q : calmD d = true
    · rw [snap_calm q] at h
      cases h
      exact any r q
    · cases d with
      | ref n =>
        unfold snap at h
        simp only at h
        cases e1 : ah[n]? with
        | none => rw [e1] at h; cases h
        | some o =>
          rw [e1] at h
          cases o with
          | lst ds =>
            simp only at h
            split at h
            · rename_i hn
              cases h
              cases r with
              | ref hr =>
                obtain ⟨xs, h1, h2, h3⟩ := hH.at_ n _ _ hr e1
                exact .lst (by simp) (by simp) h1 h2 (h3.re (fun a o _ _ => ⟨by simp, by simp⟩) (fun a _ _ => ⟨by simp, by simp⟩) hn)
            · cases h
          | obj c fs => cases h
      | scr ns => exact absurd rfl q
      | _ =>
        exfalso
        simp only [snap] at h
        split at h
        · rename_i hn; exact q (by simpa [calmD] using hn)
        · cases h
theorem snaps_in (hH : RH S Z ι H ah) (c : Bool) : ∀ {ds es : List D} {vs : List V}, RVs S.K Z ι H ds vs → snaps ah ds = some es → (c = true → ds.all calmD = true) → RVs S.K (Zin c Z ι) [] H es vs
  | _, es, _, .nil, h, _ => by cases h; exact .nil
  | d :: ds, es, _, .cons r t, h, hc => by
    unfold snaps at h
    cases e1 : snap ah d with
    | none => rw [e1] at h; cases h
    | some e =>
      rw [e1] at h
      cases e2 : snaps ah ds with
      | none => rw [e2] at h; cases h
      | some es' =>
        rw [e2] at h
        cases h
        refine .cons (snap_in hH r e1 c fun z => ?_) (snaps_in hH c t e2 fun z => ?_)
        · have := hc z; rw [List.all_cons, Bool.and_eq_true] at this; exact this.1
        · have := hc z; rw [List.all_cons, Bool.and_eq_true] at this; exact this.2
/-- behind such a call the caller's things stand -/
theorem rh_back (hH : RH S Z ι H ah) {ι' : List Addr} {H' : Hp} (x : Ext [] H ι' H') (tb : Tb S.K H') : Ext ι H ι H' ∧ RH S Z ι H' ah := by
  have k : ∀ a o, H a = some o → isTb o = false → H' a = some o := fun a o e hb => x.keep a o e hb (by simp)
  have xx : Ext ι H ι H' := ⟨List.prefix_refl _, fun a o e hb _ => k a o e hb, fun a h => .inl h⟩
  refine ⟨xx, hH.nd, hH.len, fun n a o h1 h2 => ?_, fun a ha => ?_, tb⟩
  · have r := hH.at_ n a o h1 h2
    obtain ⟨u, e, nt⟩ := r.trN
    exact r.ext xx ((k a u e nt.tb).trans e.symm)
  · obtain ⟨z, u, e, nt⟩ := hH.z a ha
    exact ⟨z, u, k a u e nt.tb, nt⟩
theorem out_back (hH : RH S Z ι H ah) {ι' : List Addr} {H' : Hp} (x : Ext [] H ι' H') (tb : Tb S.K H') {c : Bool} {d : D} {v : V} (r : RV S.K (Zin c Z ι) ι' H' d v) (h : outOk c d = true) : RV S.K Z ι H' d v := by
  have nt := nt_out (rh_back hH x tb).2
  cases c with
  | true =>
    refine r.re (fun a o e1 e2 => nt a o e1 e2) (fun a n1 n2 => ⟨fun z => n2 (List.mem_append_right _ z), fun z => n2 (List.mem_append_left _ z)⟩) ?_
    have h : d.nr = true := h
    cases d <;> simp_all [calmD, D.nr]
  | false => exact r.reT (fun a o e1 e2 => nt a o e1 e2) h
theorem outs_back (hH : RH S Z ι H ah) {ι' : List Addr} {H' : Hp} (x : Ext [] H ι' H') (tb : Tb S.K H') {c : Bool} {ds : List D} {vs : List V} (r : RVs S.K (Zin c Z ι) ι' H' ds vs) (h : outsOk c ds = true) : RVs S.K Z ι H' ds vs := by
  have nt := nt_out (rh_back hH x tb).2
  cases c with
  | true => exact r.re (fun a o e1 e2 => nt a o e1 e2) (fun a n1 n2 => ⟨fun z => n2 (List.mem_append_right _ z), fun z => n2 (List.mem_append_left _ z)⟩) h
  | false => exact r.reT (fun a o e1 e2 => nt a o e1 e2) h
theorem outD_back (hH : RH S Z ι H ah) {ι' : List Addr} {H' : Hp} {h' : List AO} (x : Ext [] H ι' H') {c : Bool} (rh : RH S (Zin c Z ι) ι' H' h') {d : D} {v : V} (r : RV S.K (Zin c Z ι) ι' H' d v) (h : outOk c (outD h' d) = true) : RV S.K Z ι H' (outD h' d) v := by
  by_cases q : ∃ k ds, d = .ref k ∧ h'[k]? = some (.lst ds)
  · obtain ⟨k, ds, rfl, e⟩ := q
    have eo : outD h' (.ref k) = .lst ds := by simp [outD, e]
    rw [eo] at h ⊢
    cases r with
    | @ref _ a ha =>
      obtain ⟨xs, h1, h2, h3⟩ := rh.at_ k a _ ha e
      have an : Nw H a := by
        rcases x.new a (List.mem_of_getElem? ha) with q | q
        · simp at q
        · exact q
      cases c with
      | true => exact .lst (hH.freshN an).1 (hH.freshN an).2 h1 h2 (outs_back hH x rh.tb h3 (by simpa [outOk, outsOk, D.nr] using h))
      | false => simp [outOk, D.nl] at h
  · have eo : outD h' d = d := by
      cases d with
      | ref k =>
        unfold outD
        simp only
        split
        · rename_i ds e; exact absurd ⟨k, ds, rfl, e⟩ q
        · rfl
      | _ => rfl
    rw [eo] at h ⊢
    exact out_back hH x rh.tb r h
theorem rx_back (hH : RH S Z ι H ah) {ι' : List Addr} {H' : Hp} (x : Ext [] H ι' H') (tb : Tb S.K H') {c : Bool} {y : Exn} {cls : Value} {dx : Option Addr} (r : RX S (Zin c Z ι) ι' H' y cls dx) (h : outsOk c (y.fs.map (·.2)) = true) : RX S Z ι H' y cls dx := by
  obtain ⟨C, h1, h2, h3⟩ := r
  refine ⟨C, h1, h2, ?_⟩
  cases dx with
  | none => exact h3
  | some d =>
    obtain ⟨vs, e, r⟩ := h3
    exact ⟨vs, e, outs_back hH x tb r h⟩
end
section
variable {X : Cx} {W : WX} {k : Nat} {f : Addr} {fd : FuncData} {ps : List Str} {F : FF} {x : Str} {p pos : Pos} {e : Expr} {es : List Expr} {g : SA}
theorem de_callG {nps : Nat} (tk : Takes X W) (G : Fn X.prog X.w X.K X.mg X.base k f fd ps F) (hr : Room k X.A) (hm : X.mg x = some (.ref f)) (hk : PySem.W.keepIn X.K (.ref f) = true) (hb : Binds X.K fd ps []) (ha : DA X W (e :: es) g)
    (hg : Gl X x := by rfl) (hdb : (x == ("__debug__" : Str)) = false := by decide) (he : starEach (e :: es) X.env = (false, eval e X.env) :: starEach es X.env := by rfl) (hpl : (backTo pos (starEach es X.env)).any (·.1) = false := by rfl) (hn : nps = ps.length := by rfl) :
    DE X W (.Call (.Name x p) (e :: es) [] pos) (cCallG nps F g) := by
  subst hn
  refine ⟨(pe_callS (E := WE W) G hr hg hm hk hb (fun σ => passAt tk σ) ha.pa hdb he hpl).weak fun σ H Q h => ?_⟩
  obtain ⟨Z, ι, ρ, ah, hH, hE, h⟩ := h
  refine ⟨Z, ι, ρ, ah, hH, hE, h.bind.mono fun ds ah1 ι1 H1 x1 hH1 h vs rvs => ?_⟩
  split at h
  · rename_i hl
    exact ⟨by rw [← rvs.length]; exact hl, Z, ι1, ds, ah1, hH1, rvs, h.wish fun _ _ _ q => q⟩
  · exact h.elim
theorem de_callP {nps : Nat} (tk : Takes X W) (G : Fn X.prog X.w X.K X.mg X.base k f fd ps F) (hr : Room k X.A) (hm : X.mg x = some (.ref f)) (hk : PySem.W.keepIn X.K (.ref f) = true) (hb : Binds X.K fd ps []) (ha : DA X W (e :: es) g)
    (hg : Gl X x := by rfl) (hdb : (x == ("__debug__" : Str)) = false := by decide) (he : starEach (e :: es) X.env = (false, eval e X.env) :: starEach es X.env := by rfl) (hpl : (backTo pos (starEach es X.env)).any (·.1) = false := by rfl) (hn : nps = ps.length := by rfl) :
    DE X W (.Call (.Name x p) (e :: es) [] pos) (cCallP nps F g) := by
  subst hn
  refine ⟨(pe_callS (E := WE W) G hr hg hm hk hb (fun σ => passAt tk σ) ha.pa hdb he hpl).weak fun σ H Q h => ?_⟩
  obtain ⟨Z, ι, ρ, ah, hH, hE, h⟩ := h
  refine ⟨Z, ι, ρ, ah, hH, hE, h.bind.mono fun ds ah1 ι1 H1 x1 hH1 h vs rvs => ?_⟩
  split at h
  · rename_i hl
    cases e1 : snaps ah1 ds with
    | none => rw [e1] at h; exact h.elim
    | some es' =>
      rw [e1] at h
      simp only at h
      refine ⟨by rw [← rvs.length]; exact hl, Zin (ds.all calmD) Z ι1, [], es', [], rh_in hH1 _, snaps_in hH1 _ rvs e1 fun z => z, ?_⟩
      cases e2 : F es' [] with
      | ok d h' =>
        rw [e2] at h
        unfold pureR at h
        simp only at h
        split at h
        · rename_i ho
          intro ι' H' x' r' v rv
          obtain ⟨x2, hH2⟩ := rh_back hH1 x' r'.tb
          exact h ι1 H' x2 hH2 v (outD_back hH1 x' r' rv ho)
        · exact h.elim
      | exc y h' =>
        rw [e2] at h
        unfold pureR at h
        simp only at h
        split at h
        · rename_i ho
          intro cls dx ι' H' x' r' rx
          obtain ⟨x2, hH2⟩ := rh_back hH1 x' r'.tb
          exact h cls dx ι1 H' x2 hH2 (rx_back hH1 x' r'.tb rx ho)
        · exact h.elim
      | stuck => rw [e2] at h; exact h.elim
  · exact h.elim
theorem de_callN {nps : Nat} (tk : Takes X W) (G : Fn X.prog X.w X.K X.mg X.base k f fd ps F) (hr : Room k X.A) (hm : X.mg x = some (.ref f)) (hk : PySem.W.keepIn X.K (.ref f) = true) (hb : Binds X.K fd ps []) (ha : DA X W (e :: es) g)
    (hg : Gl X x := by rfl) (hdb : (x == ("__debug__" : Str)) = false := by decide) (he : starEach (e :: es) X.env = (false, eval e X.env) :: starEach es X.env := by rfl) (hpl : (backTo pos (starEach es X.env)).any (·.1) = false := by rfl) (hn : nps = ps.length := by rfl) :
    DE X W (.Call (.Name x p) (e :: es) [] pos) (cCallN nps F g) := by
  subst hn
  refine ⟨(pe_callS (E := WE W) G hr hg hm hk hb (fun σ => passAt tk σ) ha.pa hdb he hpl).weak fun σ H Q h => ?_⟩
  obtain ⟨Z, ι, ρ, ah, hH, hE, h⟩ := h
  refine ⟨Z, ι, ρ, ah, hH, hE, h.bind.mono fun ds ah1 ι1 H1 x1 hH1 h vs rvs => ?_⟩
  split at h
  · rename_i hl
    cases e1 : snaps ah1 ds with
    | none => rw [e1] at h; exact h.elim
    | some es' =>
      rw [e1] at h
      simp only at h
      refine ⟨by rw [← rvs.length]; exact hl, Zin (ds.all calmD) Z ι1, [], es', [], rh_in hH1 _, snaps_in hH1 _ rvs e1 fun z => z, ?_⟩
      cases e2 : F es' [] with
      | ok d h' =>
        rw [e2] at h
        cases d with
        | ref kk =>
          unfold newR at h
          simp only at h
          cases e3 : h'[kk]? with
          | none => rw [e3] at h; exact h.elim
          | some o =>
            rw [e3] at h
            cases o with
            | obj c fs => exact h.elim
            | lst bs =>
              simp only at h
              split at h
              · rename_i ho
                intro ι' H' x' r' v rv
                obtain ⟨x2, hH2⟩ := rh_back hH1 x' r'.tb
                cases rv with
                | @ref _ a ha' =>
                  obtain ⟨xs, k1, k2, k3⟩ := r'.at_ kk a _ ha' e3
                  have am : a ∈ ι' := List.mem_of_getElem? ha'
                  have an : Nw H1 a := by
                    rcases x'.new a am with q | q
                    · simp at q
                    · exact q
                  have fr := hH1.freshN an
                  have x3 : Ext ι1 H1 (ι1 ++ [a]) H' := ⟨List.prefix_append _ _, fun b o e hb _ => x'.keep b o e hb (by simp), fun b hb => by
                    rcases List.mem_append.mp hb with q | q
                    · exact .inl q
                    · rw [List.mem_singleton.mp q]; exact .inr an⟩
                  have nt : ∀ b o, H' b = some o → ¬ NT o → b ∉ ι1 ++ [a] ∧ b ∉ Z := fun b o e1 e2 => by
                    have q := nt_out hH2 b o e1 e2
                    refine ⟨fun z => ?_, q.2⟩
                    rcases List.mem_append.mp z with z | z
                    · exact q.1 z
                    · rw [List.mem_singleton.mp z, k1] at e1
                      cases e1
                      exact e2 trivial
                  have k4 : RVs X.K Z (ι1 ++ [a]) H' bs xs := by
                    cases hc : ds.all calmD with
                    | true =>
                      rw [hc] at k3 ho
                      refine k3.re nt (fun b n1 n2 => ⟨fun z => ?_, fun z => n2 (List.mem_append_left _ z)⟩) ho
                      rcases List.mem_append.mp z with z | z
                      · exact n2 (List.mem_append_right _ z)
                      · rw [List.mem_singleton.mp z] at n1; exact n1 am
                    | false => rw [hc] at ho; exact k3.reT nt ho
                  refine h (ι1 ++ [a]) H' x3 ⟨?_, by simp [hH1.len], fun n b u h1 h2 => ?_, fun b hb => ?_, r'.tb⟩ _ (.ref ?_)
                  · rw [List.nodup_append]
                    refine ⟨hH1.nd, by simp, fun b hb c hc => ?_⟩
                    rw [List.mem_singleton.mp hc]
                    rintro rfl
                    exact fr.1 hb
                  · by_cases hn : n < ι1.length
                    · rw [List.getElem?_append_left hn] at h1
                      rw [List.getElem?_append_left (by rw [← hH1.len]; exact hn)] at h2
                      have r := hH1.at_ n b u h1 h2
                      obtain ⟨w', e, nw⟩ := r.trN
                      exact r.ext x3 ((x'.keep b w' e nw.tb (by simp)).trans e.symm)
                    · have hl : n < (ι1 ++ [a]).length := (List.getElem?_eq_some_iff.mp h1).1
                      have e : n = ι1.length := by simp at hl; omega
                      subst e
                      rw [List.getElem?_concat_length] at h1
                      have h2' : (ah1 ++ [AO.lst bs])[ah1.length]? = some u := by rw [← hH1.len]; exact h2
                      rw [List.getElem?_concat_length] at h2'
                      cases h1; cases h2'
                      exact ⟨xs, k1, k2, k4⟩
                  · obtain ⟨z, u, e, q⟩ := hH2.z b hb
                    refine ⟨fun hm => ?_, u, e, q⟩
                    rcases List.mem_append.mp hm with y | y
                    · exact z y
                    · rw [List.mem_singleton.mp y] at hb; exact fr.2 hb
                  · rw [← hH1.len, List.getElem?_concat_length]
              · exact h.elim
        | _ => exact h.elim
      | exc y h' =>
        rw [e2] at h
        unfold newR at h
        simp only at h
        split at h
        · rename_i ho
          intro cls dx ι' H' x' r' rx
          obtain ⟨x2, hH2⟩ := rh_back hH1 x' r'.tb
          exact h cls dx ι1 H' x2 hH2 (rx_back hH1 x' r'.tb rx ho)
        · exact h.elim
      | stuck => rw [e2] at h; exact h.elim
  · exact h.elim
end
end Qd

set_option Elab.async false
set_option linter.all false
set_option maxRecDepth 100000
set_option maxHeartbeats 2000000
/-! QBi: built-in functions and methods of lists. -/
namespace Qd
open PySem PySem.Spec L2
/-! ### a call of a built-in by values -/
def cBi (o : List D → List AO → R D) (g : SA) : SE := fun ρ ah => (g ρ ah).bind fun ds ah1 => o ds ah1
def CaSim (X : Cx) (r : List V → Hp → VK → Prop) (o : List D → List AO → R D) : Prop :=
  ∀ (W : WX) (Z ι : List Addr) (H : Hp) (σ : L2.St) (ah : List AO) (ds : List D) (vs : List V) (Q : VK), RH (sr X) Z ι H ah → RVs X.K Z ι H ds vs →
    ResP (sr X) W Z ι H σ (fun d _ ι' H' => ∀ v, RV X.K Z ι' H' d v → Q v H') (o ds ah) → r vs H Q
section
variable {X : Cx} {W : WX} {pos p : Pos} {x : Str} {e e1 e2 e3 : Expr} {es : List Expr} {f k : SE} {g : SA} {bid T : String} {r : List V → Hp → VK → Prop} {o : List D → List AO → R D}
theorem bi_run (hs : CaSim X r o) {σ : L2.St} {H : Hp} {Q : VK} (h : tOf (sr X) W (cBi o g) σ H Q) : tCB r (tOfA (sr X) W g) σ H Q := by
  obtain ⟨Z, ι, ρ, ah, hH, hE, h⟩ := h
  exact ⟨Z, ι, ρ, ah, hH, hE, h.bind.mono fun ds ah1 ι1 H1 x1 hH1 h vs rvs => hs W Z ι1 H1 σ ah1 ds vs Q hH1 rvs h⟩
theorem de_bi (hc : CallR X (.builtin bid) r) (hs : CaSim X r o) (hm : X.mg x = none) (hv : bootBuiltins x = some (.builtin bid)) (ha : DA X W (e :: es) g) (hg : Gl X x := by rfl) (hn : x ≠ "__name__" := by decide) (hdb : (x == ("__debug__" : Str)) = false := by decide)
    (he : starEach (e :: es) X.env = (false, eval e X.env) :: starEach es X.env := by rfl) (hpl : (backTo pos (starEach es X.env)).any (·.1) = false := by rfl) : DE X W (.Call (.Name x p) (e :: es) [] pos) (cBi o g) :=
  ⟨(pe_callB hc hg hm hv ha.pa hn hdb he hpl).weak fun _ _ _ h => bi_run hs h⟩
theorem de_ty (hc : CallR X (.type T) r) (hs : CaSim X r o) (hm : X.mg x = none) (hv : bootBuiltins x = some (.type T)) (ha : DA X W (e :: es) g) (hg : Gl X x := by rfl) (hn : x ≠ "__name__" := by decide) (hdb : (x == ("__debug__" : Str)) = false := by decide)
    (he : starEach (e :: es) X.env = (false, eval e X.env) :: starEach es X.env := by rfl) (hpl : (backTo pos (starEach es X.env)).any (·.1) = false := by rfl) : DE X W (.Call (.Name x p) (e :: es) [] pos) (cBi o g) :=
  ⟨(pe_callTy hc hg hm hv ha.pa hn hdb he hpl).weak fun _ _ _ h => bi_run hs h⟩
/-! len -/
def bLen (ds : List D) (ah : List AO) : R D := match ds with
  | [d] => match look ah d with
    | .lst xs => .ok (.int xs.length) ah
    | .tup xs => .ok (.int xs.length) ah
    | .str z => if z.length ≤ sizeLine then .ok (.int z.length) ah else .stuck
    | _ => .stuck
  | _ => .stuck
theorem sim_len : CaSim X (fun xs H Q => (∃ p ys, xs = [.ref p] ∧ (SqL X.K H p ys ∨ SqT X.K H p ys) ∧ Q (.int ys.length) H) ∨ (∃ z, xs = [.str z] ∧ z.length ≤ sizeLine ∧ Q (.int z.length) H)) bLen := by
  intro W Z ι H σ ah ds vs Q hH rvs h
  unfold bLen at h
  split at h
  · cases rvs with
    | cons ra rs =>
      cases rs
      split at h
      · rename_i xs e
        obtain ⟨p, ys, rfl, f1, l1, r1⟩ := look_lst hH ra e
        exact .inl ⟨p, ys, rfl, .inl f1, by rw [← r1.length]; exact h.now hH _ (.int _)⟩
      · rename_i xs e
        obtain ⟨p, ys, rfl, rfl, f1, l1, r1⟩ := look_tup ra e
        exact .inl ⟨p, ys, rfl, .inr f1.sq, by rw [← r1.length]; exact h.now hH _ (.int _)⟩
      · rename_i z e
        obtain ⟨rfl, _⟩ := look_str ra e
        split at h
        · rename_i hl
          exact .inr ⟨z, rfl, hl, h.now hH _ (.int _)⟩
        · exact h.elim
      · exact h.elim
  · exact h.elim
theorem de_len (hm : X.mg "len" = none) (ha : DA X W [e] g) (hg : Gl X "len" := by rfl) (he : starEach [e] X.env = (false, eval e X.env) :: starEach [] X.env := by rfl) : DE X W (.Call (.Name "len" p) [e] [] pos) (cBi bLen g) :=
  de_bi (call_len_seq.or call_len_str) sim_len hm PySem.boot_len ha hg (by decide) (by decide) he
/-! tuple(x), list(x) -/
def bTuple (ds : List D) (ah : List AO) : R D := match ds with
  | [d] => match look ah d with
    | .lst xs => .ok (.tup xs) ah
    | .tup xs => .ok (.tup xs) ah
    | _ => .stuck
  | _ => .stuck
theorem sim_tuple : CaSim X (fun xs H Q => ∃ p ys, xs = [.ref p] ∧ ((SqL X.K H p ys ∧ ∀ l, H l = none → Q (.ref l) (upd H l (.tup ys))) ∨ (SqT X.K H p ys ∧ Q (.ref p) H))) bTuple := by
  intro W Z ι H σ ah ds vs Q hH rvs h
  unfold bTuple at h
  split at h
  · cases rvs with
    | cons ra rs =>
      cases rs
      split at h
      · rename_i xs e
        obtain ⟨p, ys, rfl, f1, l1, r1⟩ := look_lst hH ra e
        exact ⟨p, ys, rfl, .inl ⟨f1, fun t ht => h ι _ (ext_new ht) (hH.new ht) _ (rv_tup hH ht r1 l1)⟩⟩
      · rename_i xs e
        obtain ⟨p, ys, rfl, rfl, f1, l1, r1⟩ := look_tup ra e
        exact ⟨p, ys, rfl, .inr ⟨f1.sq, h.now hH _ ra⟩⟩
      · exact h.elim
  · exact h.elim
theorem de_tuple (hm : X.mg "tuple" = none) (ha : DA X W [e] g) (hg : Gl X "tuple" := by rfl) (he : starEach [e] X.env = (false, eval e X.env) :: starEach [] X.env := by rfl) : DE X W (.Call (.Name "tuple" p) [e] [] pos) (cBi bTuple g) :=
  de_ty call_tuple_of sim_tuple hm (by decide +kernel) ha hg (by decide) (by decide) he
def bList (ds : List D) (ah : List AO) : R D := match ds with
  | [d] => match look ah d with
    | .lst xs => .ok (.lst xs) ah
    | .tup xs => .ok (.lst xs) ah
    | _ => .stuck
  | _ => .stuck
def bListM (ds : List D) (ah : List AO) : R D := match ds with
  | [d] => match look ah d with
    | .lst xs => .ok (.ref ah.length) (ah ++ [.lst xs])
    | .tup xs => .ok (.ref ah.length) (ah ++ [.lst xs])
    | _ => .stuck
  | _ => .stuck
abbrev rList (X : Cx) : List V → Hp → VK → Prop := fun xs H Q => ∃ p ys, xs = [.ref p] ∧ (SqL X.K H p ys ∨ SqT X.K H p ys) ∧ ∀ l, H l = none → Q (.ref l) (upd H l (.lst ys))
theorem sim_list : CaSim X (rList X) bList := by
  intro W Z ι H σ ah ds vs Q hH rvs h
  unfold bList at h
  split at h
  · cases rvs with
    | cons ra rs =>
      cases rs
      split at h
      · rename_i xs e
        obtain ⟨p, ys, rfl, f1, l1, r1⟩ := look_lst hH ra e
        exact ⟨p, ys, rfl, .inl f1, fun t ht => h ι _ (ext_new ht) (hH.new ht) _ (rv_lst hH ht r1 l1)⟩
      · rename_i xs e
        obtain ⟨p, ys, rfl, rfl, f1, l1, r1⟩ := look_tup ra e
        exact ⟨p, ys, rfl, .inr f1.sq, fun t ht => h ι _ (ext_new ht) (hH.new ht) _ (rv_lst hH ht r1 l1)⟩
      · exact h.elim
  · exact h.elim
theorem newM_use {S : Sr} {Z ι : List Addr} {H : Hp} {σ : L2.St} {ah : List AO} {Q : VK} {xs : List D} {ys : List V} {t : Addr} (hH : RH S Z ι H ah) (r : RVs S.K Z ι H xs ys) (l : ys.length ≤ sizeLine)
    (h : ResP S W Z ι H σ (fun d _ ι' H' => ∀ v, RV S.K Z ι' H' d v → Q v H') (.ok (.ref ah.length) (ah ++ [.lst xs]))) (ht : H t = none) : Q (.ref t) (upd H t (.lst ys)) := by
  have xe : Ext ι H (ι ++ [t]) (upd H t (.lst ys)) := ext_newM ht
  refine h (ι ++ [t]) _ xe (hH.newM ht ⟨ys, upd_same, l, r.ext xe⟩) _ (.ref ?_)
  rw [← hH.len, List.getElem?_concat_length]
theorem sim_listM : CaSim X (rList X) bListM := by
  intro W Z ι H σ ah ds vs Q hH rvs h
  unfold bListM at h
  split at h
  · cases rvs with
    | cons ra rs =>
      cases rs
      split at h
      · rename_i xs e
        obtain ⟨p, ys, rfl, f1, l1, r1⟩ := look_lst hH ra e
        exact ⟨p, ys, rfl, .inl f1, fun t ht => newM_use hH r1 l1 h ht⟩
      · rename_i xs e
        obtain ⟨p, ys, rfl, rfl, f1, l1, r1⟩ := look_tup ra e
        exact ⟨p, ys, rfl, .inr f1.sq, fun t ht => newM_use hH r1 l1 h ht⟩
      · exact h.elim
  · exact h.elim
theorem de_list (hm : X.mg "list" = none) (ha : DA X W [e] g) (hg : Gl X "list" := by rfl) (he : starEach [e] X.env = (false, eval e X.env) :: starEach [] X.env := by rfl) : DE X W (.Call (.Name "list" p) [e] [] pos) (cBi bList g) :=
  de_ty call_list_of sim_list hm (by decide +kernel) ha hg (by decide) (by decide) he
theorem de_listM (hm : X.mg "list" = none) (ha : DA X W [e] g) (hg : Gl X "list" := by rfl) (he : starEach [e] X.env = (false, eval e X.env) :: starEach [] X.env := by rfl) : DE X W (.Call (.Name "list" p) [e] [] pos) (cBi bListM g) :=
  de_ty call_list_of sim_listM hm (by decide +kernel) ha hg (by decide) (by decide) he
/-! int(n), abs(n), max, min of two ints -/
def bInt (ds : List D) (ah : List AO) : R D := match ds with
  | [.int i] => .ok (.int i) ah
  | [.bl b] => .ok (.int (if b then 1 else 0)) ah
  | _ => .stuck
theorem sim_bint : CaSim X (fun xs H Q => (∃ i, xs = [.int i] ∧ Q (.int i) H) ∨ ∃ k, xs = [.bl k] ∧ Q (.int (if k then 1 else 0)) H) bInt := by
  intro W Z ι H σ ah ds vs Q hH rvs h
  unfold bInt at h
  split at h
  · cases rvs with
    | cons ra rs => cases rs; cases ra; exact .inl ⟨_, rfl, h.now hH _ (.int _)⟩
  · cases rvs with
    | cons ra rs => cases rs; cases ra; exact .inr ⟨_, rfl, h.now hH _ (.int _)⟩
  · exact h.elim
theorem de_toint (hm : X.mg "int" = none) (ha : DA X W [e] g) (hg : Gl X "int" := by rfl) (he : starEach [e] X.env = (false, eval e X.env) :: starEach [] X.env := by rfl) : DE X W (.Call (.Name "int" p) [e] [] pos) (cBi bInt g) :=
  de_ty call_int1 sim_bint hm PyProof.Rows.boot_int ha hg (by decide) (by decide) he
def bAbs (ds : List D) (ah : List AO) : R D := match ds with
  | [.int i] => .ok (.int (if i < 0 then -i else i)) ah
  | _ => .stuck
theorem sim_babs : CaSim X (fun xs H Q => ∃ i, xs = [.int i] ∧ Q (.int (if i < 0 then -i else i)) H) bAbs := by
  intro W Z ι H σ ah ds vs Q hH rvs h
  unfold bAbs at h
  split at h
  · cases rvs with
    | cons ra rs => cases rs; cases ra; exact ⟨_, rfl, h.now hH _ (.int _)⟩
  · exact h.elim
theorem de_abs (hm : X.mg "abs" = none) (ha : DA X W [e] g) (hg : Gl X "abs" := by rfl) (he : starEach [e] X.env = (false, eval e X.env) :: starEach [] X.env := by rfl) : DE X W (.Call (.Name "abs" p) [e] [] pos) (cBi bAbs g) :=
  de_bi call_abs sim_babs hm (by decide +kernel) ha hg (by decide) (by decide) he
def bMax2 (ds : List D) (ah : List AO) : R D := match ds with
  | [.int i, .int j] => .ok (.int (if j > i then j else i)) ah
  | _ => .stuck
def bMin2 (ds : List D) (ah : List AO) : R D := match ds with
  | [.int i, .int j] => .ok (.int (if j < i then j else i)) ah
  | _ => .stuck
theorem sim_max2 : CaSim X (fun xs H Q => ∃ i j, xs = [.int i, .int j] ∧ Q (.int (if j > i then j else i)) H) bMax2 := by
  intro W Z ι H σ ah ds vs Q hH rvs h
  unfold bMax2 at h
  split at h
  · cases rvs with
    | cons ra rs => cases rs with
      | cons rb rs => cases rs; cases ra; cases rb; exact ⟨_, _, rfl, h.now hH _ (.int _)⟩
  · exact h.elim
theorem sim_min2 : CaSim X (fun xs H Q => ∃ i j, xs = [.int i, .int j] ∧ Q (.int (if j < i then j else i)) H) bMin2 := by
  intro W Z ι H σ ah ds vs Q hH rvs h
  unfold bMin2 at h
  split at h
  · cases rvs with
    | cons ra rs => cases rs with
      | cons rb rs => cases rs; cases ra; cases rb; exact ⟨_, _, rfl, h.now hH _ (.int _)⟩
  · exact h.elim
theorem de_max2 (hc : X.calm = true) (hm : X.mg "max" = none) (ha : DA X W [e1, e2] g) (hg : Gl X "max" := by rfl) (he : starEach [e1, e2] X.env = (false, eval e1 X.env) :: starEach [e2] X.env := by rfl) (hpl : (backTo pos (starEach [e2] X.env)).any (·.1) = false := by rfl) : DE X W (.Call (.Name "max" p) [e1, e2] [] pos) (cBi bMax2 g) :=
  de_bi (call_max2 hc) sim_max2 hm (by decide +kernel) ha hg (by decide) (by decide) he hpl
theorem de_min2 (hc : X.calm = true) (hm : X.mg "min" = none) (ha : DA X W [e1, e2] g) (hg : Gl X "min" := by rfl) (he : starEach [e1, e2] X.env = (false, eval e1 X.env) :: starEach [e2] X.env := by rfl) (hpl : (backTo pos (starEach [e2] X.env)).any (·.1) = false := by rfl) : DE X W (.Call (.Name "min" p) [e1, e2] [] pos) (cBi bMin2 g) :=
  de_bi (call_min2 hc) sim_min2 hm (by decide +kernel) ha hg (by decide) (by decide) he hpl
/-! all, any of truths -/
def bools : List D → Option (List Bool)
  | [] => some []
  | .bl b :: ds => (bools ds).map (b :: ·)
  | _ => none
theorem RVs.bools {K : PySem.W.Frag} {Z ι : List Addr} {H : Hp} : ∀ {ds : List D} {vs : List V} {bs : List Bool}, RVs K Z ι H ds vs → Qd.bools ds = some bs → vs = bs.map V.bl
  | _, _, bs, .nil, h => by cases h; rfl
  | d :: ds, _, bs, .cons r t, h => by
    cases r with
    | bl b =>
      unfold Qd.bools at h
      cases e : Qd.bools ds with
      | none => rw [e] at h; cases h
      | some cs => rw [e] at h; cases h; rw [List.map_cons, RVs.bools t e]
    | _ => cases h
def bAll (ds : List D) (ah : List AO) : R D := match ds with
  | [d] => match look ah d with
    | .lst xs => match bools xs with
      | some bs => .ok (.bl (bs.all id)) ah
      | none => .stuck
    | _ => .stuck
  | _ => .stuck
def bAny (ds : List D) (ah : List AO) : R D := match ds with
  | [d] => match look ah d with
    | .lst xs => match bools xs with
      | some bs => .ok (.bl (bs.any id)) ah
      | none => .stuck
    | _ => .stuck
  | _ => .stuck
theorem sim_all : CaSim X (rAll X.K) bAll := by
  intro W Z ι H σ ah ds vs Q hH rvs h
  unfold bAll at h
  split at h
  · cases rvs with
    | cons ra rs =>
      cases rs
      split at h
      · rename_i xs e
        obtain ⟨p, ys, rfl, f1, l1, r1⟩ := look_lst hH ra e
        split at h
        · rename_i bs eb
          exact ⟨p, bs, rfl, by rw [← r1.bools eb]; exact f1, h.now hH _ (.bl _)⟩
        · exact h.elim
      · exact h.elim
  · exact h.elim
theorem sim_any : CaSim X (rAny X.K) bAny := by
  intro W Z ι H σ ah ds vs Q hH rvs h
  unfold bAny at h
  split at h
  · cases rvs with
    | cons ra rs =>
      cases rs
      split at h
      · rename_i xs e
        obtain ⟨p, ys, rfl, f1, l1, r1⟩ := look_lst hH ra e
        split at h
        · rename_i bs eb
          exact ⟨p, bs, rfl, by rw [← r1.bools eb]; exact f1, h.now hH _ (.bl _)⟩
        · exact h.elim
      · exact h.elim
  · exact h.elim
theorem de_all (hc : X.calm = true) (hm : X.mg "all" = none) (ha : DA X W [e] g) (hg : Gl X "all" := by rfl) (he : starEach [e] X.env = (false, eval e X.env) :: starEach [] X.env := by rfl) : DE X W (.Call (.Name "all" p) [e] [] pos) (cBi bAll g) :=
  de_bi (cr_all hc) sim_all hm (by decide +kernel) ha hg (by decide) (by decide) he
theorem de_any (hc : X.calm = true) (hm : X.mg "any" = none) (ha : DA X W [e] g) (hg : Gl X "any" := by rfl) (he : starEach [e] X.env = (false, eval e X.env) :: starEach [] X.env := by rfl) : DE X W (.Call (.Name "any" p) [e] [] pos) (cBi bAny g) :=
  de_bi (cr_any hc) sim_any hm (by decide +kernel) ha hg (by decide) (by decide) he

/-! ### isinstance(x, T), isinstance(x, (T, U)) -/
def tyD (d : D) : Option String := match d with
  | .non => some "NoneType"
  | .bl _ => some "bool"
  | .int _ => some "int"
  | .str _ => some "str"
  | .tup _ => some "tuple"
  | .lst _ => some "list"
  | .scr _ => some "list"
  | .ref _ => none
def tyOf (ah : List AO) (d : D) : Option String := tyD (look ah d)
theorem tyOf_rv {S : Sr} {Z ι : List Addr} {H : Hp} {ah : List AO} {d : D} {v : V} {t : String} (hH : RH S Z ι H ah) (r : RV S.K Z ι H d v) (h : tyOf ah d = some t) : TyX S.K H v (.type t) := by
  cases r with
  | non => cases h; exact .base .non
  | bl b => cases h; exact .base (.bl b)
  | int b => cases h; exact .base (.int b)
  | str b _ => cases h; exact .base (.str b)
  | scr f l =>
    cases h
    rcases f with ⟨_, q | ⟨o, q⟩⟩ | ⟨o, its, n, q, c, _⟩
    · exact .base (.lst q)
    · exact .base (.frz q)
    · exact .kList q c
  | lst n1 n2 e l r => cases h; exact .base (.lst e)
  | tup f l r =>
    cases h
    rcases f with ⟨_, q | ⟨o, q⟩⟩ | ⟨o, its, n, q, c, _⟩
    · exact .base (.tup q)
    · exact .fTuple q
    · exact .kTuple q c
  | @ref n a e =>
    unfold tyOf look at h
    simp only at h
    cases q : ah[n]? with
    | none => rw [q] at h; cases h
    | some o =>
      rw [q] at h
      cases o with
      | lst ds =>
        cases h
        obtain ⟨xs, h1, _⟩ := hH.at_ n a _ e q
        exact .base (.lst h1)
      | obj c fs => cases h
/-- whether the built-in types a, in their order, are met by one of b -/
def isTy (t : String) (ts : List String) : Option Bool := match ts with
  | [] => some false
  | u :: us => match kitB t u with
    | some true => some true
    | some false => isTy t us
    | none => none
def cIsi (ts : List String) (f : SE) : SE := fun ρ ah => (f ρ ah).bind fun d ah1 => match tyOf ah1 d with
  | some t => match isTy t ts with
    | some b => .ok (.bl b) ah1
    | none => .stuck
  | none => .stuck
theorem kitAny_of {K : PySem.W.Frag} {t : String} : ∀ {ts : List String} {b : Bool}, isTy t ts = some b → PySem.W.kitAny K (.type t) (ts.map Value.type) = some b
  | [], b, h => by cases h; exact kitAny_nil
  | u :: us, b, h => by
    unfold isTy at h
    cases e : kitB t u with
    | none => rw [e] at h; cases h
    | some c =>
      rw [e] at h
      cases c with
      | true => cases h; rw [List.map_cons]; exact kitAny_cons (kit_ty e) (fun z => by cases z) (fun _ => rfl)
      | false =>
        rw [List.map_cons]
        exact kitAny_cons (b := false) (kit_ty e) (fun _ => kitAny_of h) (fun z => by cases z)
theorem pe_tyname {T : Str} {t : String} (hm : X.mg T = none) (hv : bootBuiltins T = some (.type t)) (hg : Gl X T) (hn : T ≠ "__name__") (hd : (T == ("__debug__" : Str)) = false) : PE X (.Name T pos) (tC (.ty t)) := pe_bltn hg hm hv rfl hn hd
theorem de_isi1 {T : Str} {t : String} {pT : Pos} (hm : X.mg "isinstance" = none) (hmT : X.mg T = none) (hv : bootBuiltins T = some (.type t)) (h1 : DE X W e f) (hg : Gl X "isinstance" := by rfl) (hgT : Gl X T := by rfl) (hn : T ≠ "__name__" := by decide) (hd : (T == ("__debug__" : Str)) = false := by decide)
    (he : starEach [e, .Name T pT] X.env = (false, eval e X.env) :: starEach [.Name T pT] X.env := by rfl) (he2 : starEach [.Name T pT] X.env = (false, eval (.Name T pT) X.env) :: starEach [] X.env := by rfl) (hpl : (backTo pos (starEach [.Name T pT] X.env)).any (·.1) = false := by rfl) :
    DE X W (.Call (.Name "isinstance" p) [e, .Name T pT] [] pos) (cIsi [t] f) := by
  refine ⟨(pe_callB call_isi hg hm (by decide +kernel) (pa_cons h1.pe (pa_cons (pe_tyname hmT hv hgT hn hd) pa_nil he2) he) (by decide) (by decide) he hpl).weak fun σ H Q h => ?_⟩
  obtain ⟨Z, ι, ρ, ah, hH, hE, h⟩ := h
  refine ⟨Z, ι, ρ, ah, hH, hE, h.bind.mono fun d ah1 ι1 H1 x1 hH1 h v rv => ?_⟩
  cases e1 : tyOf ah1 d with
  | none => rw [e1] at h; exact h.elim
  | some u =>
    rw [e1] at h
    cases e2 : isTy u [t] with
    | none => simp only [e2] at h; exact h.elim
    | some b =>
      simp only [e2] at h
      have hb : kitB u t = some b := by
        unfold isTy at e2
        cases e3 : kitB u t with
        | none => rw [e3] at e2; cases e2
        | some c => rw [e3] at e2; cases c <;> (cases e2; rfl)
      exact ⟨v, .ty t, .type u, .type t, b, rfl, .ty t, tyOf_rv hH1 rv e1, kit_ty hb, h.now hH1 _ (.bl _)⟩
theorem de_isi2 {T U : Str} {t u : String} {pT pU pp : Pos} {kk : Nat} (hm : X.mg "isinstance" = none) (hmT : X.mg T = none) (hmU : X.mg U = none) (hv : bootBuiltins T = some (.type t)) (hvU : bootBuiltins U = some (.type u)) (h1 : DE X W e f)
    (hg : Gl X "isinstance" := by rfl) (hgT : Gl X T := by rfl) (hgU : Gl X U := by rfl) (hn : T ≠ "__name__" := by decide) (hd : (T == ("__debug__" : Str)) = false := by decide) (hnU : U ≠ "__name__" := by decide) (hdU : (U == ("__debug__" : Str)) = false := by decide)
    (he : starEach [e, .Tuple [.Name T pT, .Name U pU] kk pp] X.env = (false, eval e X.env) :: starEach [.Tuple [.Name T pT, .Name U pU] kk pp] X.env := by rfl)
    (he2 : starEach [.Tuple [.Name T pT, .Name U pU] kk pp] X.env = (false, eval (.Tuple [.Name T pT, .Name U pU] kk pp) X.env) :: starEach [] X.env := by rfl)
    (he3 : starEach [.Name T pT, .Name U pU] X.env = (false, eval (.Name T pT) X.env) :: starEach [.Name U pU] X.env := by rfl) (he4 : starEach [.Name U pU] X.env = (false, eval (.Name U pU) X.env) :: starEach [] X.env := by rfl)
    (hpl : (backTo pos (starEach [.Tuple [.Name T pT, .Name U pU] kk pp] X.env)).any (·.1) = false := by rfl) :
    DE X W (.Call (.Name "isinstance" p) [e, .Tuple [.Name T pT, .Name U pU] kk pp] [] pos) (cIsi [t, u] f) := by
  refine ⟨(pe_callB call_isiT hg hm (by decide +kernel) (pa_cons h1.pe (pa_cons (pe_tup (pa_cons (pe_tyname hmT hv hgT hn hd) (pa_cons (pe_tyname hmU hvU hgU hnU hdU) pa_nil he4) he3)) pa_nil he2) he) (by decide) (by decide) he hpl).weak fun σ H Q h => ?_⟩
  obtain ⟨Z, ι, ρ, ah, hH, hE, h⟩ := h
  refine ⟨Z, ι, ρ, ah, hH, hE, h.bind.mono fun d ah1 ι1 H1 x1 hH1 h v rv => ?_⟩
  cases e1 : tyOf ah1 d with
  | none => rw [e1] at h; exact h.elim
  | some w =>
    rw [e1] at h
    cases e2 : isTy w [t, u] with
    | none => simp only [e2] at h; exact h.elim
    | some b =>
      simp only [e2] at h
      refine ⟨by show 2 ≤ sizeLine; decide, fun q hq => ?_⟩
      have xn : Ext ι1 H1 ι1 (upd H1 q (.tup [.ty t, .ty u])) := ext_new hq
      exact ⟨v, q, [.ty t, .ty u], .type w, [.type t, .type u], b, rfl, upd_same, .cons (.ty t) (.cons (.ty u) .nil), tyOf_rv (hH1.new hq) (rv.ext xn) e1, kitAny_of e2, h ι1 _ xn (hH1.new hq) _ (.bl _)⟩
/-! ### methods of lists -/
def onLst (d : D) (ah : List AO) (k : Nat → List D → R D) : R D := match d with
  | .ref n => match ah[n]? with
    | some (.lst xs) => k n xs
    | _ => .stuck
  | _ => .stuck
@[simp] theorem onLst_ref (n : Nat) (ah : List AO) (xs : List D) (k : Nat → List D → R D) (h : ah[n]? = some (.lst xs)) : onLst (.ref n) ah k = k n xs := by simp [onLst, h]
theorem onLst_run {S : Sr} {Z ι : List Addr} {H : Hp} {σ : L2.St} {ah : List AO} {d : D} {v : V} {k : Nat → List D → R D} {P : D → List AO → List Addr → Hp → Prop} (hH : RH S Z ι H ah) (r : RV S.K Z ι H d v) (h : ResP S W Z ι H σ P (onLst d ah k)) :
    ∃ n a xs ys, d = .ref n ∧ v = .ref a ∧ ι[n]? = some a ∧ ah[n]? = some (.lst xs) ∧ H a = some (.lst ys) ∧ ys.length ≤ sizeLine ∧ RVs S.K Z ι H xs ys ∧ ResP S W Z ι H σ P (k n xs) := by
  unfold onLst at h
  split at h
  · rename_i n
    cases r with
    | @ref _ a e =>
      cases q : ah[n]? with
      | none => rw [q] at h; exact h.elim
      | some o =>
        rw [q] at h
        cases o with
        | lst xs =>
          obtain ⟨ys, h1, h2, h3⟩ := hH.at_ n a _ e q
          exact ⟨n, a, xs, ys, rfl, rfl, e, q, h1, h2, h3, h⟩
        | obj c fs => exact h.elim
  · exact h.elim
/-- a list of ours is changed -/
theorem set_use {S : Sr} {Z ι : List Addr} {H : Hp} {ah : List AO} {n : Nat} {a : Addr} {xs : List D} {ys : List V} (hH : RH S Z ι H ah) (e : ι[n]? = some a) (r : RVs S.K Z ι H xs ys) (l : ys.length ≤ sizeLine) :
    Ext ι H ι (upd H a (.lst ys)) ∧ RH S Z ι (upd H a (.lst ys)) (ah.set n (.lst xs)) := by
  have x : Ext ι H ι (upd H a (.lst ys)) := ext_set (List.mem_of_getElem? e)
  exact ⟨x, hH.set e ⟨ys, upd_same, l, r.ext x⟩⟩
def mAppend (d : D) (ds : List D) (ah : List AO) : R D := match ds with
  | [y] => onLst d ah fun n xs => if xs.length < sizeLine then .ok .non (ah.set n (.lst (xs ++ [y]))) else .stuck
  | _ => .stuck
def cMtL (o : D → List D → List AO → R D) (f : SE) (g : SA) : SE := fun ρ ah => (f ρ ah).bind fun d ah1 => onLst d ah1 fun _ _ => (g ρ ah1).bind fun ds ah2 => o d ds ah2
def cMtL0 (o : D → List D → List AO → R D) (f : SE) : SE := fun ρ ah => (f ρ ah).bind fun d ah1 => onLst d ah1 fun _ _ => o d [] ah1
def MtSim (X : Cx) (r : V → List V → Hp → VK → Prop) (o : D → List D → List AO → R D) : Prop :=
  ∀ (W : WX) (Z ι : List Addr) (H : Hp) (σ : L2.St) (ah : List AO) (d : D) (v : V) (ds : List D) (vs : List V) (Q : VK), RH (sr X) Z ι H ah → RV X.K Z ι H d v → RVs X.K Z ι H ds vs →
    ResP (sr X) W Z ι H σ (fun d _ ι' H' => ∀ v, RV X.K Z ι' H' d v → Q v H') (o d ds ah) → r v vs H Q
theorem de_mtL {mid : String} {name : Str} {r : V → List V → Hp → VK → Prop} {o : D → List D → List AO → R D} {recv : Expr} {apos : Pos} (slot : Slot "list" name mid) (hty : typeOf (.builtin mid) = pure (.type "method_descriptor")) (hm : MtR X mid r) (sim : MtSim X r o)
    (h1 : DE X W recv f) (ha : DA X W (e :: es) g)
    (hbase : attributeBase recv name X.env (eval recv X.env) = eval recv X.env := by rfl)
    (hfew : ((backTo pos (starEach (e :: es) X.env)).all (fun x => !x.1) && (backToKw pos (keywordEach [] X.env)).all (fun x => x.1.isSome)
      && decide ((e :: es).length + ([] : List Keyword).length + (if ([] : List Keyword).isEmpty then 0 else 1) < 30)) = true := by rfl)
    (hline : (apos.endLine == pos.line) = true := by rfl) (hs : starEach (e :: es) X.env = (false, eval e X.env) :: starEach es X.env := by rfl) (hplain : (backTo pos (starEach es X.env)).any (·.1) = false := by rfl) :
    DE X W (.Call (.Attribute recv name apos) (e :: es) [] pos) (cMtL o f g) := by
  refine ⟨(pe_bm PySem.F.plainAttrs_list slot hty hm h1.pe ha.pa hbase hfew hline hs hplain).weak fun σ H Q h => ?_⟩
  obtain ⟨Z, ι, ρ, ah, hH, hE, h⟩ := h
  refine ⟨Z, ι, ρ, ah, hH, hE, h.bind.mono fun d ah1 ι1 H1 x1 hH1 h v rv => ?_⟩
  obtain ⟨n, a, xs, ys, rfl, rfl, e1, e2, e3, l3, r3, h⟩ := onLst_run hH1 rv h
  refine ⟨.inl ⟨rfl, ys, .of e3⟩, Z, ι1, ρ, ah1, hH1, hE.ext x1, h.bind.mono fun ds ah2 ι2 H2 x2 hH2 h vs rvs => ?_⟩
  exact sim W Z ι2 H2 σ ah2 _ _ ds vs Q hH2 (rv.ext x2) rvs h
theorem de_mtL0 {mid : String} {name : Str} {r : V → List V → Hp → VK → Prop} {o : D → List D → List AO → R D} {recv : Expr} {apos : Pos} (slot : Slot "list" name mid) (hty : typeOf (.builtin mid) = pure (.type "method_descriptor")) (hm : MtR X mid r) (sim : MtSim X r o)
    (h1 : DE X W recv f) (hbase : attributeBase recv name X.env (eval recv X.env) = eval recv X.env := by rfl) (hline : (apos.endLine == pos.line) = true := by rfl) :
    DE X W (.Call (.Attribute recv name apos) [] [] pos) (cMtL0 o f) := by
  refine ⟨(pe_bm0 PySem.F.plainAttrs_list slot hty hm h1.pe hbase hline).weak fun σ H Q h => ?_⟩
  obtain ⟨Z, ι, ρ, ah, hH, hE, h⟩ := h
  refine ⟨Z, ι, ρ, ah, hH, hE, h.bind.mono fun d ah1 ι1 H1 x1 hH1 h v rv => ?_⟩
  obtain ⟨n, a, xs, ys, rfl, rfl, e1, e2, e3, l3, r3, h⟩ := onLst_run hH1 rv h
  exact ⟨.inl ⟨rfl, ys, .of e3⟩, sim W Z ι1 H1 σ ah1 _ _ [] [] Q hH1 rv .nil h⟩
theorem sim_append : MtSim X rAppend mAppend := by
  intro W Z ι H σ ah d v ds vs Q hH rv rvs h
  unfold mAppend at h
  split at h
  · cases rvs with
    | cons ra rs =>
      cases rs
      obtain ⟨n, a, xs, ys, rfl, rfl, e1, e2, e3, l3, r3, h⟩ := onLst_run hH rv h
      split at h
      · rename_i hl
        have e := r3.length
        obtain ⟨x, hH2⟩ := set_use hH e1 (r3.append (.one ra)) (by rw [List.length_append, List.length_singleton]; omega)
        exact ⟨a, ys, _, rfl, rfl, e3, by omega, h ι _ x hH2 _ .non⟩
      · exact h.elim
  · exact h.elim
theorem de_append {recv : Expr} {apos : Pos} (h1 : DE X W recv f) (ha : DA X W [e] g) (hbase : attributeBase recv "append" X.env (eval recv X.env) = eval recv X.env := by rfl)
    (hfew : ((backTo pos (starEach [e] X.env)).all (fun x => !x.1) && (backToKw pos (keywordEach [] X.env)).all (fun x => x.1.isSome)
      && decide ([e].length + ([] : List Keyword).length + (if ([] : List Keyword).isEmpty then 0 else 1) < 30)) = true := by rfl)
    (hline : (apos.endLine == pos.line) = true := by rfl) (hs : starEach [e] X.env = (false, eval e X.env) :: starEach [] X.env := by rfl) :
    DE X W (.Call (.Attribute recv "append" apos) [e] [] pos) (cMtL mAppend f g) := de_mtL PySem.F.slot_list_append PySem.F.type_list_append mt_append sim_append h1 ha hbase hfew hline hs
/-- the other list is no one that may change, or it is another -/
def mExtend (d : D) (ds : List D) (ah : List AO) : R D := match ds with
  | [.lst zs] => onLst d ah fun n xs => if xs.length + zs.length ≤ sizeLine then .ok .non (ah.set n (.lst (xs ++ zs))) else .stuck
  | [.ref m] => onLst (.ref m) ah fun _ zs => onLst d ah fun n xs => if xs.length + zs.length ≤ sizeLine then .ok .non (ah.set n (.lst (xs ++ zs))) else .stuck
  | _ => .stuck
theorem sim_extend : MtSim X rExtend mExtend := by
  intro W Z ι H σ ah d v ds vs Q hH rv rvs h
  unfold mExtend at h
  split at h
  · rename_i zs
    cases rvs with
    | cons ra rs =>
      cases rs
      obtain ⟨n, a, xs, ys, rfl, rfl, e1, e2, e3, l3, r3, h⟩ := onLst_run hH rv h
      cases ra with
      | @lst b ws _ n1 n2 eb lb rb =>
        split at h
        · rename_i hl
          have e := r3.length
          have e' := rb.length
          obtain ⟨x, hH2⟩ := set_use hH e1 (r3.append rb) (by rw [List.length_append]; omega)
          exact ⟨a, b, ys, ws, rfl, rfl, e3, eb, by omega, h ι _ x hH2 _ .non⟩
        · exact h.elim
  · rename_i m
    cases rvs with
    | cons ra rs =>
      cases rs
      obtain ⟨m', b, zs, ws, e0, rfl, f1, f2, f3, m3, s3, h⟩ := onLst_run hH ra h
      obtain ⟨n, a, xs, ys, rfl, rfl, e1, e2, e3, l3, r3, h⟩ := onLst_run hH rv h
      split at h
      · rename_i hl
        have e := r3.length
        have e' := s3.length
        obtain ⟨x, hH2⟩ := set_use hH e1 (r3.append s3) (by rw [List.length_append]; omega)
        exact ⟨a, b, ys, ws, rfl, rfl, e3, f3, by omega, h ι _ x hH2 _ .non⟩
      · exact h.elim
  · exact h.elim
theorem de_extend {recv : Expr} {apos : Pos} (h1 : DE X W recv f) (ha : DA X W [e] g) (hbase : attributeBase recv "extend" X.env (eval recv X.env) = eval recv X.env := by rfl)
    (hfew : ((backTo pos (starEach [e] X.env)).all (fun x => !x.1) && (backToKw pos (keywordEach [] X.env)).all (fun x => x.1.isSome)
      && decide ([e].length + ([] : List Keyword).length + (if ([] : List Keyword).isEmpty then 0 else 1) < 30)) = true := by rfl)
    (hline : (apos.endLine == pos.line) = true := by rfl) (hs : starEach [e] X.env = (false, eval e X.env) :: starEach [] X.env := by rfl) :
    DE X W (.Call (.Attribute recv "extend" apos) [e] [] pos) (cMtL mExtend f g) := de_mtL PySem.F.slot_list_extend PySem.F.type_list_extend mt_extend sim_extend h1 ha hbase hfew hline hs
/-! o[i] = e, o[i] += e -/
def setIx (o i d : D) (ah : List AO) : R Unit := onLst' o ah fun n xs => match i with
    | .int k => match ixN xs.length k with
      | some j => .ok () (ah.set n (.lst (xs.set j d)))
      | none => .stuck
    | _ => .stuck
where onLst' (d : D) (ah : List AO) (k : Nat → List D → R Unit) : R Unit := match d with
  | .ref n => match ah[n]? with
    | some (.lst xs) => k n xs
    | _ => .stuck
  | _ => .stuck
theorem setIx_run {S : Sr} {Z ι : List Addr} {H : Hp} {σ : L2.St} {ah : List AO} {o i d : D} {vo vi vd : V} {P : Unit → List AO → List Addr → Hp → Prop} (hH : RH S Z ι H ah) (ro : RV S.K Z ι H o vo) (ri : RV S.K Z ι H i vi) (rd : RV S.K Z ι H d vd) (h : ResP S W Z ι H σ P (setIx o i d ah)) :
    rSetL vo vi vd H fun H' => ∃ ah', Ext ι H ι H' ∧ RH S Z ι H' ah' ∧ setIx o i d ah = .ok () ah' ∧ P () ah' ι H' := by
  unfold setIx setIx.onLst' at h ⊢
  split at h
  · rename_i n
    cases ro with
    | @ref _ a e =>
      cases q : ah[n]? with
      | none => rw [q] at h; exact h.elim
      | some u =>
        rw [q] at h
        cases u with
        | obj c fs => exact h.elim
        | lst xs =>
          obtain ⟨ys, h1, h2, h3⟩ := hH.at_ n a _ e q
          simp only at h ⊢
          split at h
          · rename_i k
            cases ri
            split at h
            · rename_i j ej
              have x := set_use hH e (h3.set rd j) (by rw [List.length_set]; exact h2)
              exact ⟨a, ys, k, j, rfl, rfl, h1, by rw [← h3.length]; exact ej, _, x.1, x.2, by simp [q, ej], h ι _ x.1 x.2⟩
            · exact h.elim
          · exact h.elim
  · exact h.elim
/-- o[i] = e -/
def sSetIx (fe fo fi : SE) : SS := fun ρ ah => (fe ρ ah).out ρ fun d ah1 => (fo ρ ah1).out ρ fun o ah2 => (fi ρ ah2).out ρ fun i ah3 => (setIx o i d ah3).out ρ fun _ ah4 => .nx ρ ah4
theorem ds_setIx {oe ie ve : Expr} {fe fo fi : SE} {p' : Pos} (he : DE X W ve fe) (ho : DE X W oe fo) (hi : DE X W ie fi)
    (ha : ∀ v, assign (.Subscript oe ie p') X.env v = (do
      let ov ← holding [v] (eval oe X.env)
      let iv ← holding [v, ov] (eval ie X.env)
      standAt p'
      holding [v, ov, iv] (setItem ov iv v)
      release [v, ov, iv] []) := by intro _; rfl)
    (hs : swapsWithSole [.Subscript oe ie p'] ve pos.line X.env = pure false := by rfl) (hw : swappedStores [.Subscript oe ie p'] ve X.env = pure none := by rfl)
    (h1 : (assignEach [.Subscript oe ie p'] X.env).map (·.2) = [assign (.Subscript oe ie p') X.env] := by rfl) : DS X W (.Assign [.Subscript oe ie p'] ve pos) (sSetIx fe fo fi) := by
  refine ⟨(ps_asg he.pe (pg_sub ho.pe hi.pe set_list ha) hs hw h1).weak fun D σ H h => ?_⟩
  obtain ⟨Z, ι, ρ, ah, hH, hE, h⟩ := h
  refine ⟨Z, ι, ρ, ah, hH, hE, (h.out hE).mono fun d ah1 ι1 H1 x1 hH1 h v rv => ?_⟩
  have hE1 := hE.ext x1
  refine ⟨Z, ι1, ρ, ah1, hH1, hE1, (h.out hE1).mono fun o ah2 ι2 H2 x2 hH2 h vo ro => ?_⟩
  have hE2 := hE1.ext x2
  refine ⟨Z, ι2, ρ, ah2, hH2, hE2, (h.out hE2).mono fun i ah3 ι3 H3 x3 hH3 h vi ri => ?_⟩
  have hE3 := hE2.ext x3
  have q := setIx_run hH3 (ro.ext x3) ri (rv.ext (x2.trans x3)) (h.out hE3)
  obtain ⟨p, xs, k, j, e1, e2, e3, e4, ah', x4, hH4, _, h⟩ := q
  exact ⟨p, xs, k, j, e1, e2, e3, e4, h ι3 _ σ .refl hH4 (hE3.ext x4)⟩
/-- a list's item, by values -/
theorem get_list : PGet X (rIxL X.K) := by
  intro pins s σ H x y v u Q I rx ry h
  obtain ⟨p, xs, i, z, rfl, rfl, hq, he, q⟩ := h
  cases rx
  obtain ⟨t, rfl⟩ := ry
  obtain ⟨its, r, pl, hz⟩ := I.list hq
  obtain ⟨j, h1, h2, h3, h4, h5⟩ := atI_get he
  obtain ⟨w, ew, rw'⟩ := r.get h2
  have hl := r.length
  have hn := line63
  have fin : EP X pins σ Q w s := ⟨z, H, I, rw', q⟩
  by_cases h0 : 0 ≤ i
  · have hj : i.toNat = j := by
      rw [seqIndex_of h0 h5] at h1
      exact Option.some.inj h1
    exact wpAny_getItem_list pl.isList h0 (by omega) (by rw [hj]; simpa using ew) fin
  · have hj : (i + (its.toArray.size : Int)).toNat = j := by
      rw [seqIndex_neg (by omega) h4] at h1
      rw [List.size_toArray, ← hl]
      exact Option.some.inj h1
    exact wpAny_getItem_list_neg pl.isList (by omega) (by rw [List.size_toArray] <;> omega) (by omega) (by rw [hj]; simpa using ew) fin
/-- o[i] op= e, o a list -/
def sAugIx (o : DOp) (fo fi fe : SE) : SS := fun ρ ah => (fo ρ ah).out ρ fun l ah1 => (fi ρ ah1).out ρ fun i ah2 => match look ah2 l, i with
  | .lst xs, .int k => match atI xs k with
    | some x => (fe ρ ah2).out ρ fun y ah3 => (o x y ah3).out ρ fun z ah4 => (setIx l i z ah4).out ρ fun _ ah5 => .nx ρ ah5
    | none => .stuck
  | _, _ => .stuck
theorem ds_augIx {oe ie ve : Expr} {fe fo fi : SE} {p' : Pos} {op : Operator} {r : R2} {o : DOp} (hop : OpR X (inplaceOp op) r) (hsim : OpSim X r o) (ho : DE X W oe fo) (hi : DE X W ie fi) (he : DE X W ve fe)
    (ha : ∀ ov iv new, augStore ie ov iv new = (do holding [new, ov, iv] (setItem ov iv new); release [new, ov, iv] []; pure .next) := by intros; rfl) : DS X W (.AugAssign (.Subscript oe ie p') op ve pos) (sAugIx o fo fi fe) := by
  refine ⟨(ps_augS (tip := r) ho.pe hi.pe get_list he.pe (fun pins s σ H x y v u Q I rx ry h => hop pins s σ H x y v u Q I rx ry h) set_list ha).weak fun D σ H h => ?_⟩
  obtain ⟨Z, ι, ρ, ah, hH, hE, h⟩ := h
  refine ⟨Z, ι, ρ, ah, hH, hE, (h.out hE).mono fun l ah1 ι1 H1 x1 hH1 h vl rl => ?_⟩
  have hE1 := hE.ext x1
  refine ⟨Z, ι1, ρ, ah1, hH1, hE1, (h.out hE1).mono fun i ah2 ι2 H2 x2 hH2 h vi ri => ?_⟩
  have hE2 := hE1.ext x2
  split at h
  · rename_i xs k ea
    obtain ⟨p, vs, rfl, f1, l1, r1⟩ := look_lst hH2 (rl.ext x2) ea
    cases ri
    split at h
    · rename_i x ex
      obtain ⟨v, ev, rv⟩ := r1.atI ex
      refine ⟨p, vs, k, v, rfl, rfl, f1, ev, Z, ι2, ρ, ah2, hH2, hE2, (h.out hE2).mono fun y ah3 ι3 H3 x3 hH3 h w rw => ?_⟩
      have hE3 := hE2.ext x3
      refine hsim W Z ι3 H3 σ ah3 x y v w _ hH3 (rv.ext x3) rw ((h.out hE3).mono fun z ah4 ι4 H4 x4 hH4 h u ru => ?_)
      have hE4 := hE3.ext x4
      have q := setIx_run hH4 (rl.ext ((x2.trans x3).trans x4)) (.int k) ru (h.out hE4)
      obtain ⟨p', xs', k', j, e1, e2, e3, e4, ah', x5, hH5, _, h⟩ := q
      exact ⟨p', xs', k', j, e1, e2, e3, e4, h ι4 _ σ .refl hH5 (hE4.ext x5)⟩
    · exact h.elim
  · exact h.elim
end
end Qd

set_option Elab.async false
set_option linter.all false
set_option maxRecDepth 100000
set_option maxHeartbeats 2000000
/-! QMore: stars in displays, constants of the module. -/
namespace Qd
open PySem PySem.Spec L2
section
variable {X : Cx} {W : WX} {pos p : Pos} {x : Str} {e e1 e2 e3 : Expr} {es : List Expr} {f k : SE} {g : SA}
theorem notIter_list {M : Model} {A : Around} {E : Value → Shared → Prop} {s : Shared} {v : Value} {T id : String} {Q : Bool → Shared → Prop} (ht : s.TypeIs v T) (sl : typeLookup (.type T) "__iter__" = pure (some (.builtin id))) (h : Q false s) : wpAny M A (notIterableAtAll v) Q E s := by
  unfold notIterableAtAll
  refine wpAny_bind (wpAny_specialOf ht sl ?_)
  exact wpAny_pure h
/-- the items of a list, a tuple -/
def itemsOf (ah : List AO) (d : D) : Option (List D) := match look ah d with
  | .lst xs => some xs
  | .tup xs => some xs
  | _ => none
theorem itemsOf_run {S : Sr} {Z ι : List Addr} {H : Hp} {ah : List AO} {d : D} {v : V} {xs : List D} (hH : RH S Z ι H ah) (r : RV S.K Z ι H d v) (h : itemsOf ah d = some xs) : ∃ a ys, v = .ref a ∧ (SqL S.K H a ys ∨ SqT S.K H a ys) ∧ ys.length ≤ sizeLine ∧ RVs S.K Z ι H xs ys := by
  unfold itemsOf at h
  split at h
  · rename_i zs e
    cases h
    obtain ⟨a, ys, h1, h2, h3, h4⟩ := look_lst hH r e
    exact ⟨a, ys, h1, .inl h2, h3, h4⟩
  · rename_i zs e
    cases h
    obtain ⟨a, ys, h1, _, h2, h3, h4⟩ := look_tup r e
    exact ⟨a, ys, h1, .inr h2.sq, h3, h4⟩
  · cases h
def aStar (f : SE) (g : SA) : SA := fun ρ ah => (f ρ ah).bind fun d ah1 => match itemsOf ah1 d with
  | some xs => (g ρ ah1).bind fun ds ah2 => .ok (xs ++ ds) ah2
  | none => .stuck
theorem da_star (h1 : DE X W e f) (h2 : DA X W es g) (hs : starEach (.Starred e p :: es) X.env = (true, eval e X.env) :: starEach es X.env := by rfl) : DA X W (.Starred e p :: es) (aStar f g) := by
  refine ⟨⟨fun pos pins s σ H Q I h => ?_⟩⟩
  obtain ⟨Z, ι, ρ, ah, hH, hE, h⟩ := h
  rw [hs]
  show wpAny (model X.prog X.w) X.A (spliced ((true, do let v ← eval e X.env; standAt pos; pure v) :: backTo pos (starEach es X.env))) _ _ _
  rw [spliced]
  refine wpAny_bind (wpAny_bind (thn (h1.pe.run pins s σ H (fun v H1 => ∃ ι1 ah1 xs a ys, v = .ref a ∧ Ext ι H ι1 H1 ∧ RH (sr X) Z ι1 H1 ah1 ∧ (SqL X.K H1 a ys ∨ SqT X.K H1 a ys) ∧ ys.length ≤ sizeLine ∧ RVs X.K Z ι1 H1 xs ys ∧
      ResP (sr X) W Z ι1 H1 σ (fun ds _ ι' H' => ∀ vs, RVs X.K Z ι' H' ds vs → Q vs H') ((g ρ ah1).bind fun ds ah2 => .ok (xs ++ ds) ah2)) I ⟨Z, ι, ρ, ah, hH, hE, h.bind.mono fun d ah1 ι1 H1 x1 hH1 h v rv => ?_⟩) fun u s1 ⟨v, H1, I1, r1, q⟩ => ?_))
  · cases e1 : itemsOf ah1 d with
    | none => rw [e1] at h; exact h.elim
    | some xs =>
      rw [e1] at h
      obtain ⟨a, ys, h1, h2, h3, h4⟩ := itemsOf_run hH1 rv e1
      exact ⟨ι1, ah1, xs, a, ys, h1, x1, hH1, h2, h3, h4, h⟩
  · obtain ⟨ι1, ah1, xs, a, ys, rfl, x1, hH1, hq, hl, hr, h⟩ := q
    cases r1
    refine wpAny_bind (wpAny_standAt (wpAny_pure ?_))
    simp only [if_true]
    -- what is read: list or tuple
    have src : ∃ (T : String) (o : Obj) (its : List Value) (n : Nat) (id : String), (T = "list" ∨ T = "tuple") ∧ s1.heap.get? a = some o ∧ o.cls = .type T ∧ o.data = .seq its.toArray n ∧ Vals ys its ∧ typeLookup (.type T) "__iter__" = pure (some (.builtin id)) := by
      rcases hq with hq | hq
      · obtain ⟨its, r, ⟨o, n, ho, hc, _, hd⟩, _⟩ := I1.list hq
        exact ⟨"list", o, its, n, _, .inl rfl, ho, hc, hd, r, PySem.F.slot_list_iter.lookup⟩
      · obtain ⟨its, r, ⟨o, ho, hc, n, hd⟩, _⟩ := I1.tuple hq
        exact ⟨"tuple", o, its, n, _, .inr rfl, ho, hc, hd, r, PySem.F.slot_tuple_iter.lookup⟩
    obtain ⟨T, o, its, n, id, hT, ho, hc, hd, r, sl⟩ := src
    have ty : s1.TypeIs (.ref a) T := ⟨o, ho, hc⟩
    refine wpAny_bind (notIter_list ty sl ?_)
    simp only [Bool.false_eq_true, if_false]
    have hz : its.toArray.size ≤ sizeLine := by rw [List.size_toArray, ← r.length]; exact hl
    refine wpAny_bind (wpAny_collect_seq (hsz := hz) a hT ho hc hd fun h' hk => ?_)
    have I2 : Inv X pins σ H1 { s1 with heap := h' } := I1.kept (t' := s1.toks) hk
    refine wpAny_bind (wpAny_holding (thn (h2.pa.run pos pins _ σ H1 (fun vs H2 => Q (ys ++ vs) H2) I2 ⟨Z, ι1, ρ, ah1, hH1, hE.ext x1, h.bind.mono fun ds ah2 ι2 H2 x2 hH2 h vs rvs => ?_⟩) fun us s3 ⟨vs, H3, I3, r3, q3⟩ => ?_))
    · exact h.now hH2 (ys ++ vs) ((hr.ext x2).append rvs)
    · exact wpAny_pure ⟨ys ++ vs, H3, I3, by simpa using r.append r3, q3⟩
/-! constants -/
theorem de_gint {i : Int} (hm : ∃ t, X.mg x = some (.int i t)) (hg : Gl X x := by rfl) (hd : (x == ("__debug__" : Str)) = false := by decide) : DE X W (.Name x pos) (cC (.int i)) := by
  obtain ⟨t, h⟩ := hm
  exact de_glob (v := .int i) hg h ⟨t, rfl⟩ (fun _ _ _ => .int i) hd
theorem de_gstr {z : Str} (hm : ∃ t, X.mg x = some (.str z t)) (hz : PyData.strOk z = true := by decide +kernel) (hg : Gl X x := by rfl) (hd : (x == ("__debug__" : Str)) = false := by decide) : DE X W (.Name x pos) (cC (.str z)) := by
  obtain ⟨t, h⟩ := hm
  exact de_glob (v := .str z) hg h ⟨t, rfl⟩ (fun _ _ _ => .str z hz) hd
/-! the end -/
def csOf (K : PySem.W.Frag) : List (Addr × Addr) := lamNames.filterMap (PySem.W.tabIn K)
theorem tb_start {K : PySem.W.Frag} {H : Hp} (h : ∀ p ∈ csOf K, H p.2 = some (.tbl #[])) : Tb K H := fun p hp => by
  unfold tabsL at hp
  obtain ⟨x, hx, e⟩ := List.mem_filterMap.mp hp
  cases e1 : PySem.W.tabIn K x with
  | none => rw [e1] at e; cases e
  | some q =>
    rw [e1] at e; cases e
    exact LamX.TabS.nil (h q (List.mem_filterMap.mpr ⟨x, hx, e1⟩))
def spL (K : PySem.W.Frag) : Sp := fun vs H Q _ => ∃ (a : Addr) (ns : List Int), vs = [.ref a] ∧ ns.length ≤ 63 ∧ Tb K H ∧ SqL K H a (ns.map V.int) ∧ ∀ H', Q (.bl true) H'
theorem spL_of {S : Sr} {F : FF} (ht : ∀ ns : List Int, ns.length ≤ 63 → ∃ ah, F [.scr ns] [] = .ok (.bl true) ah) (vs : List V) (H : Hp) (Q : VK) (E : XK) (h : spL S.K vs H Q E) : spF S 1 F vs H Q E := by
  obtain ⟨a, ns, rfl, hl, hO, hS, q⟩ := h
  obtain ⟨ah, e⟩ := ht ns hl
  refine ⟨rfl, [], [], [.scr ns], [], ⟨List.nodup_nil, rfl, fun n a o h => by simp at h, fun a h => by simp at h, hO⟩, .cons (.scr ?_ ?_) .nil, ?_⟩
  · rcases hS with hS | hS
    · exact .inl ⟨⟨by simp, by simp⟩, hS⟩
    · exact .inr hS
  · exact Nat.le_trans hl (by rw [sizeLine_eq]; decide)
  · rw [e]
    intro ι' H' x r v rv
    cases rv
    exact q H'
/-- what a maker of lambdas asks of its table -/
def TbB (K : PySem.W.Frag) (base : Heap) (mg : Str → Option Value) : Prop := ∀ x ∈ lamNames, ∀ c P, PySem.W.tabIn K x = some (c, P) → LamX.TabB base mg c P
theorem law_walk {l : PySem.W.OpenLaw} {k : Nat} {q : Program} {loose : List Str} {XP : (Str → Option Value) → Heap → Prop} {YP : World → Heap → Prop} {d : DefRec} {K : Params → PySem.W.Frag} {FL : FF}
    (hn : l.most = some 63) (hdf : d.params.defaults = []) (hr : Room k callerA) (hY : ∀ (w : World) (h : Heap), YP w h → (K w.params).In h)
    (ht : ∀ ns : List Int, ns.length ≤ 63 → ∃ ah, FL [.scr ns] [] = .ok (.bl true) ah)
    (hrec : (lamNames.all fun x => ((PyProof.Rows.recsOf q).find? (fun e => e.name == x)).isSome) = true) (hnt : lamNames ≠ [] → ∀ P, PySem.W.noTabs (K P) = true)
    (F : ∀ (w : World) (mg : Str → Option Value) (fa : Addr) (h : Heap), (K w.params).In h → h.Ns mainGlobals mg → mg d.name = some (.ref fa) →
      ∃ fd : FuncData, (∀ (s : Shared) (u : Value), BindsTo s fd ⟨[u], []⟩ [("script", u)]) ∧ ∀ base : Heap, (K w.params).In base → base.Ns mainGlobals mg → TbB (K w.params) base mg → Fn l.prog w (K w.params) mg base k fa fd ["script"] FL) :
    PySem.W.WalkO q loose XP YP l.row.toRowW d [] (fun f vs => PySem.call f vs) := by
  refine Att.attach_callB hn hdf fun w s₀ s₁ mg mb fa o pm cd doc a vs ns G Y ho hd hcd hmg hobj hints hlen hbits hg => ?_
  have KX := hY w _ Y
  obtain ⟨fd, hb, hF⟩ := F w mg fa _ KX G.T.g hmg
  have hT : ∀ x ∈ lamNames, ∀ c P, PySem.W.tabIn (K w.params) x = some (c, P) → PySem.W.CodeHd s₁.heap c P ∧ s₁.heap.get? P = some (PySem.W.tabObj #[]) := fun x hx c P e => by
    have := List.all_eq_true.mp hrec x hx
    obtain ⟨dd, e2⟩ := Option.isSome_iff_exists.mp this
    exact PySem.W.tab_of G.T KX e2 e
  have hcs : ∀ p ∈ csOf (K w.params), ∃ x ∈ lamNames, PySem.W.tabIn (K w.params) x = some p := fun p hp => by
    obtain ⟨x, hx, e⟩ := List.mem_filterMap.mp hp
    exact ⟨x, hx, e⟩
  refine LamX.law_callTs (cs := csOf (K w.params)) (sp := spL (K w.params)) KX G.T.g G.T.b G.T.builtins G.T.nolimit hg (fun p hp => ?_) (fun p hp => ?_) (fun p hp => ?_) G.T.bmain hobj hints (Nat.le_trans hlen (by rw [sizeLine_eq]; decide)) hr (CX := L2.CX l.prog w) (fun base KB GB TB => (hF base KB GB fun x hx c P e => ?_).imp fun vs H Q E z => spL_of ht vs H Q E z) hb (fun H hH hS => ⟨a, ns, rfl, hlen, tb_start hH, hS, fun _ => rfl⟩) fun H e s' z => ?_
  · obtain ⟨x, hx, e⟩ := hcs p hp
    exact (hT x hx p.1 p.2 e).2
  · obtain ⟨x, hx, e⟩ := hcs p hp
    cases e2 : (K w.params).lookup p.2 with
    | none => rfl
    | some u =>
      have e3 := KX _ _ e2
      rw [(hT x hx p.1 p.2 e).2] at e3
      cases e3
      have h2 := List.all_eq_true.mp (hnt (List.ne_nil_of_mem hx) w.params) _ (PySem.W.mem_of_lookupK e2)
      exact absurd (show false = true from h2) Bool.false_ne_true
  · obtain ⟨x, hx, e⟩ := hcs p hp
    exact (hT x hx p.1 p.2 e).1
  · exact TB (c, P) (List.mem_filterMap.mpr ⟨x, hx, e⟩)
  · obtain ⟨_, _, _, _, _, _, _, _, _, _, _, _, z⟩ := z
    exact z
end
end Qd

set_option Elab.async false
set_option linter.all false
set_option maxRecDepth 100000
set_option maxHeartbeats 2000000
/-! QCallB: calls that change one list that is handed in. -/
namespace Qd
open PySem PySem.Spec L2
def outB (h : List AO) (d : D) : D := match d with
  | .ref 0 => .ref 0
  | d => outD h d
@[simp] theorem outB_nr {h : List AO} {d : D} (e : d.nr = true) : outB h d = d := by
  cases d with
  | ref k => simp [D.nr] at e
  | _ => rfl
def bagR (ah : List AO) (m : Nat) (r : R D) : R D := match r with
  | .ok d h => match h[(0 : Nat)]? with
    | some (.lst ys) => if (D.nrs ys && (outB h d).nr) = true then .ok (outB h d) (ah.set m (.lst ys)) else .stuck
    | _ => .stuck
  | .exc x h => match h[(0 : Nat)]? with
    | some (.lst ys) => if (D.nrs ys && D.nrs (x.fs.map (·.2))) = true then .exc x (ah.set m (.lst ys)) else .stuck
    | _ => .stuck
  | .stuck => .stuck
def cCallB (n i : Nat) (F : FF) (g : SA) : SE := fun ρ ah => (g ρ ah).bind fun ds ah1 => if ds.length = n then (match ds[i]? with
  | some (.ref m) => match ah1[m]? with
    | some (.lst xs) => if (D.nrs xs && (ds.set i .non).all calmD) = true then bagR ah1 m (F (ds.set i (.ref 0)) [.lst xs]) else .stuck
    | _ => .stuck
  | _ => .stuck) else .stuck
theorem RVs.each {K : PySem.W.Frag} {Z ι Z2 ι2 : List Addr} {H H2 : Hp} : ∀ {ds : List D} {vs : List V}, RVs K Z ι H ds vs → (∀ (i : Nat) d v, ds[i]? = some d → vs[i]? = some v → RV K Z ι H d v → RV K Z2 ι2 H2 d v) → RVs K Z2 ι2 H2 ds vs
  | _, _, .nil, _ => .nil
  | _, _, .cons h t, k => .cons (k 0 _ _ rfl rfl h) (RVs.each t fun i d v e1 e2 r => k (i + 1) d v (by simpa using e1) (by simpa using e2) r)
section
variable {X : Cx} {W : WX} {k : Nat} {f : Addr} {fd : FuncData} {ps : List Str} {F : FF} {x : Str} {p pos : Pos} {e : Expr} {es : List Expr} {g : SA}
theorem de_callB (i : Nat) {nps : Nat} (tk : Takes X W) (G : Fn X.prog X.w X.K X.mg X.base k f fd ps F) (hr : Room k X.A) (hm : X.mg x = some (.ref f)) (hk : PySem.W.keepIn X.K (.ref f) = true) (hb : Binds X.K fd ps []) (ha : DA X W (e :: es) g)
    (hg : Gl X x := by rfl) (hdb : (x == ("__debug__" : Str)) = false := by decide) (he : starEach (e :: es) X.env = (false, eval e X.env) :: starEach es X.env := by rfl) (hpl : (backTo pos (starEach es X.env)).any (·.1) = false := by rfl) (hn : nps = ps.length := by rfl) :
    DE X W (.Call (.Name x p) (e :: es) [] pos) (cCallB nps i F g) := by
  subst hn
  refine ⟨(pe_callS (E := WE W) G hr hg hm hk hb (fun σ => passAt tk σ) ha.pa hdb he hpl).weak fun σ H Q h => ?_⟩
  obtain ⟨Z, ι, ρ, ah, hH, hE, h⟩ := h
  refine ⟨Z, ι, ρ, ah, hH, hE, h.bind.mono fun ds ah1 ι1 H1 x1 hH1 h vs rvs => ?_⟩
  split at h
  · rename_i hl
    cases e0 : ds[i]? with
    | none => rw [e0] at h; exact h.elim
    | some d0 =>
      rw [e0] at h
      cases d0 with
      | ref m =>
        simp only at h
        cases e1 : ah1[m]? with
        | none => rw [e1] at h; exact h.elim
        | some o =>
          rw [e1] at h
          cases o with
          | obj c fs => exact h.elim
          | lst xs =>
            simp only at h
            split at h
            · rename_i hq
              rw [Bool.and_eq_true] at hq
              obtain ⟨hxs, hcalm⟩ := hq
              obtain ⟨v0, ev0, rv0⟩ := rvs.get e0
              cases rv0 with
              | @ref _ a hm' =>
                have am : a ∈ ι1 := List.mem_of_getElem? hm'
                obtain ⟨ys0, k1, k2, k3⟩ := hH1.at_ m a _ hm' e1
                obtain ⟨Z', hZ'⟩ : ∃ Z' : List Addr, Z' = Z ++ ι1.filter (fun b => decide (b ≠ a)) := ⟨_, rfl⟩
                have memZ : ∀ b, b ∈ Z' ↔ b ∈ Z ∨ (b ∈ ι1 ∧ b ≠ a) := fun b => by rw [hZ']; simp
                have nt := nt_out hH1
                have toC : ∀ {ds : List D} {vs : List V}, RVs X.K Z ι1 H1 ds vs → D.nrs ds = true → RVs X.K Z' [a] H1 ds vs := fun r q => r.re
                  (fun b o e1 e2 => ⟨fun z => (nt b o e1 e2).1 (by rw [List.mem_singleton.mp z]; exact am), fun z => by
                    rcases (memZ b).mp z with z | z
                    · exact (nt b o e1 e2).2 z
                    · exact (nt b o e1 e2).1 z.1⟩)
                  (fun b n1 n2 => ⟨fun z => n1 (by rw [List.mem_singleton.mp z]; exact am), fun z => by
                    rcases (memZ b).mp z with z | z
                    · exact n2 z
                    · exact n1 z.1⟩) q
                have toC1 : ∀ {d : D} {v : V}, RV X.K Z ι1 H1 d v → calmD d = true → RV X.K Z' [a] H1 d v := fun r q => r.re
                  (fun b o e1 e2 => ⟨fun z => (nt b o e1 e2).1 (by rw [List.mem_singleton.mp z]; exact am), fun z => by
                    rcases (memZ b).mp z with z | z
                    · exact (nt b o e1 e2).2 z
                    · exact (nt b o e1 e2).1 z.1⟩)
                  (fun b n1 n2 => ⟨fun z => n1 (by rw [List.mem_singleton.mp z]; exact am), fun z => by
                    rcases (memZ b).mp z with z | z
                    · exact n2 z
                    · exact n1 z.1⟩) q
                have hin : RH (sr X) Z' [a] H1 [.lst xs] := by
                  refine ⟨by simp, rfl, fun n b o h1 h2 => ?_, fun b hb => ?_, hH1.tb⟩
                  · cases n with
                    | zero => simp at h1 h2; subst h1 h2; exact ⟨ys0, k1, k2, toC k3 hxs⟩
                    | succ n => simp at h1
                  · rcases (memZ b).mp hb with z | z
                    · exact ⟨fun q => (hH1.z b z).1 (by rw [List.mem_singleton.mp q]; exact am), (hH1.z b z).2⟩
                    · exact ⟨fun q => z.2 (List.mem_singleton.mp q), hH1.trN z.1⟩
                have hargs : RVs X.K Z' [a] H1 (ds.set i (.ref 0)) vs := by
                  have il : i < ds.length := (List.getElem?_eq_some_iff.mp e0).1
                  have base : RVs X.K Z ι1 H1 (ds.set i .non) (vs.set i .non) := rvs.set .non i
                  have b2 : RVs X.K Z' [a] H1 (ds.set i .non) (vs.set i .non) := base.each fun j d v ej _ r => toC1 r (List.all_eq_true.mp hcalm d (List.mem_of_getElem? ej))
                  have b3 := b2.set (RV.ref (n := 0) (a := a) rfl) i
                  rw [List.set_set, List.set_set] at b3
                  have : vs.set i (.ref a) = vs := by
                    obtain ⟨hi, ei⟩ := List.getElem?_eq_some_iff.mp ev0
                    rw [← ei]; exact List.set_getElem_self hi
                  rw [this] at b3
                  exact b3
                refine ⟨by rw [← rvs.length]; exact hl, Z', [a], _, _, hin, hargs, ?_⟩
                -- what comes back
                have back : ∀ {ι' : List Addr} {H' : Hp} {h' : List AO} {ys : List D}, Ext [a] H1 ι' H' → RH (sr X) Z' ι' H' h' → h'[0]? = some (.lst ys) → D.nrs ys = true →
                    Ext ι1 H1 ι1 H' ∧ RH (sr X) Z ι1 H' (ah1.set m (.lst ys)) ∧ (∀ b, b ∉ ι' → b ∉ Z' → b ∉ ι1 ∧ b ∉ Z) ∧ (∀ b o, H' b = some o → ¬ NT o → b ∉ ι1 ∧ b ∉ Z) := by
                  intro ι' H' h' ys x' r' e2 q2
                  have a0 : ι'[0]? = some a := by
                    obtain ⟨t, et⟩ := x'.pre
                    rw [← et]; rfl
                  have am' : a ∈ ι' := List.mem_of_getElem? a0
                  have mm : ∀ b, b ∉ ι' → b ∉ Z' → b ∉ ι1 ∧ b ∉ Z := fun b n1 n2 => by
                    refine ⟨fun z => ?_, fun z => n2 ((memZ b).mpr (.inl z))⟩
                    by_cases eb : b = a
                    · exact n1 (by rw [eb]; exact am')
                    · exact n2 ((memZ b).mpr (.inr ⟨z, eb⟩))
                  have nt' : ∀ b o, H' b = some o → ¬ NT o → b ∉ ι1 ∧ b ∉ Z := fun b o e1 e2 => by
                    have q := nt_out r' b o e1 e2
                    exact mm b q.1 q.2
                  have xx : Ext ι1 H1 ι1 H' := ⟨List.prefix_refl _, fun b o eb ht hb => x'.keep b o eb ht (fun z => hb (by rw [List.mem_singleton.mp z]; exact am)), fun b hb => .inl hb⟩
                  obtain ⟨ws, w1, w2, w3⟩ := r'.at_ 0 a _ a0 e2
                  have w4 : RVs X.K Z ι1 H' ys ws := w3.re nt' mm q2
                  refine ⟨xx, ⟨hH1.nd, by simp [hH1.len], fun n b o h1 h2 => ?_, fun b hb => ?_, r'.tb⟩, mm, nt'⟩
                  · by_cases en : m = n
                    · subst en
                      rw [hm'] at h1; cases h1
                      rw [List.getElem?_set_self (by rw [← hH1.len]; exact (List.getElem?_eq_some_iff.mp hm').1)] at h2
                      cases h2
                      exact ⟨ws, w1, w2, w4⟩
                    · rw [List.getElem?_set_ne en] at h2
                      have r := hH1.at_ n b o h1 h2
                      obtain ⟨u, eu, nu⟩ := r.trN
                      have nb : b ≠ a := fun z => by
                        subst z
                        exact en ((List.getElem?_inj (List.getElem?_eq_some_iff.mp hm').1 hH1.nd).mp (hm'.trans h1.symm))
                      exact r.ext xx ((x'.keep b u eu nu.tb (fun z => nb (List.mem_singleton.mp z))).trans eu.symm)
                  · obtain ⟨z1, u, eu, nu⟩ := hH1.z b hb
                    exact ⟨z1, u, x'.keep b u eu nu.tb (fun z => z1 (by rw [List.mem_singleton.mp z]; exact am)), nu⟩
                cases eF : F (ds.set i (.ref 0)) [.lst xs] with
                | stuck => rw [eF] at h; exact h.elim
                | exc y h' =>
                  rw [eF] at h
                  unfold bagR at h
                  simp only at h
                  cases e2 : h'[0]? with
                  | none => rw [e2] at h; exact h.elim
                  | some o2 =>
                    rw [e2] at h
                    cases o2 with
                    | obj c fs => exact h.elim
                    | lst ys =>
                      simp only at h
                      split at h
                      · rename_i hq
                        rw [Bool.and_eq_true] at hq
                        intro cls dx ι' H' x' r' rx
                        obtain ⟨xx, rr, mm, nt'⟩ := back x' r' e2 hq.1
                        refine h cls dx ι1 H' xx rr ?_
                        obtain ⟨C, c1, c2, c3⟩ := rx
                        refine ⟨C, c1, c2, ?_⟩
                        cases dx with
                        | none => exact c3
                        | some dd =>
                          obtain ⟨us, u1, u2⟩ := c3
                          exact ⟨us, u1, u2.re nt' mm hq.2⟩
                      · exact h.elim
                | ok d h' =>
                  rw [eF] at h
                  unfold bagR at h
                  simp only at h
                  cases e2 : h'[0]? with
                  | none => rw [e2] at h; exact h.elim
                  | some o2 =>
                    rw [e2] at h
                    cases o2 with
                    | obj c fs => exact h.elim
                    | lst ys =>
                      simp only at h
                      split at h
                      · rename_i hq
                        rw [Bool.and_eq_true] at hq
                        intro ι' H' x' r' v rv
                        obtain ⟨xx, rr, mm, nt'⟩ := back x' r' e2 hq.1
                        refine h ι1 H' xx rr v ?_
                        by_cases qq : ∃ k ds, d = .ref (k + 1) ∧ h'[k + 1]? = some (.lst ds)
                        · obtain ⟨k, bs, rfl, e3⟩ := qq
                          have eo : outB h' (.ref (k + 1)) = .lst bs := by simp [outB, outD, e3]
                          rw [eo] at hq ⊢
                          cases rv with
                          | @ref _ c hc =>
                            obtain ⟨us, u1, u2, u3⟩ := r'.at_ (k + 1) c _ hc e3
                            have a0 : ι'[0]? = some a := by
                              obtain ⟨t, et⟩ := x'.pre
                              rw [← et]; rfl
                            have ca : c ≠ a := fun z => by
                              subst z
                              have := (List.getElem?_inj (List.getElem?_eq_some_iff.mp a0).1 r'.nd).mp (a0.trans hc.symm)
                              omega
                            have cn : Nw H1 c := by
                              rcases x'.new c (List.mem_of_getElem? hc) with z | z
                              · exact absurd (List.mem_singleton.mp z) ca
                              · exact z
                            exact .lst (hH1.freshN cn).1 (hH1.freshN cn).2 u1 u2 (u3.re nt' mm (by simpa [D.nr] using hq.2))
                        · have eo : outB h' d = d := by
                            cases d with
                            | ref k =>
                              cases k with
                              | zero => rfl
                              | succ k =>
                                unfold outB outD
                                simp only
                                split
                                · rename_i bs e3; exact absurd ⟨k, bs, rfl, e3⟩ qq
                                · rfl
                            | _ => rfl
                          rw [eo] at hq ⊢
                          refine rv.re nt' mm ?_
                          have hd := hq.2
                          cases d <;> simp_all [calmD, D.nr]
                      · exact h.elim
            · exact h.elim
      | _ => exact h.elim
  · exact h.elim
end
end Qd

set_option Elab.async false
set_option linter.all false
set_option maxRecDepth 100000
set_option maxHeartbeats 2000000
/-! QRev: x[::-1]; zip walked; more in-place operators. -/
namespace Qd
open PySem PySem.Spec PyProof.Rows L2 HT
section
variable {prog : Program} {w : World} {A : Around} {E : Value → Shared → Prop} {s : Shared}
theorem sliceApplied_rev {sl : Addr} {vl vu : Value} {vs : Value} {n : Nat} {Q : Int × Int × Nat → Shared → Prop} (hs : s.heap.IsSliceOf sl vl vu vs) (pl : IsPart vl none) (pu : IsPart vu none) (ps : IsPart vs (some (-1)))
    (h : Q ((n : Int) - 1, -1, n) s) : wpAny (model prog w) A (Builtin.Slice.sliceApplied (.ref sl) (pure (n : Int))) Q E s := by
  obtain ⟨os, hos, hcs, hds⟩ := id hs
  unfold Builtin.Slice.sliceApplied Builtin.Slice.sliceFields
  refine wpAny_bind (wpAny_bind (wpAny_field hos hds (x := vl) rfl (wpAny_bind (wpAny_field hos hds (x := vu) rfl (wpAny_bind (wpAny_field hos hds (x := vs) rfl (wpAny_pure ?_)))))))
  refine wpAny_bind (slicePart_ ps ?_)
  show wpAny _ _ (if ((-1 : Int) == 0) = true then _ else _) _ _ s
  rw [if_neg (by decide)]
  refine wpAny_bind (slicePart_ pl (wpAny_bind (slicePart_ pu (wpAny_bind (wpAny_pure ?_)))))
  have e1 : Builtin.Slice.sliceAdjust none none (-1) (n : Int) = ((n : Int) - 1, -1) := by
    unfold Builtin.Slice.sliceAdjust
    have h1 : ((-1 : Int) < 0) := by omega
    simp only [h1, if_true]
  have e2 : Builtin.Slice.slicePlaces ((n : Int) - 1) (-1) (-1) = n := by
    unfold Builtin.Slice.slicePlaces
    have h1 : ¬ ((-1 : Int) > 0) := by omega
    simp only [h1, if_false]
    split
    · have : ((n : Int) - 1 - -1 - 1) / (- -1) = (n : Int) - 1 := by rw [show (- -1 : Int) = 1 by decide, Int.ediv_one]; omega
      rw [this]; omega
    · omega
  show wpAny _ _ (match Builtin.Slice.sliceAdjust none none (-1) (n : Int) with | (lo, hi) => pure (lo, (-1 : Int), Builtin.Slice.slicePlaces lo hi (-1))) _ _ s
  rw [e1]
  show wpAny _ _ (pure ((n : Int) - 1, (-1 : Int), Builtin.Slice.slicePlaces ((n : Int) - 1) (-1) (-1))) _ _ s
  rw [e2]
  exact wpAny_pure h
theorem fm_congr {α β : Type} (f g : α → Option β) : ∀ l : List α, (∀ a ∈ l, f a = g a) → l.filterMap f = l.filterMap g
  | [], _ => rfl
  | a :: l, h => by
    rw [List.filterMap_cons, List.filterMap_cons, h a (List.mem_cons_self ..), fm_congr f g l fun b hb => h b (List.mem_cons_of_mem _ hb)]
theorem pick_rev (xs : Array Value) : ((List.range xs.size).filterMap fun (m : Nat) => xs[(((xs.size : Nat) : Int) - 1 + (m : Int) * (-1)).toNat]?).toArray = xs.toList.reverse.toArray := by
  have h := PySem.W.krv_pick xs
  unfold slicePick at h
  rw [PySem.W.krv_bounds] at h
  have h : ((sliceRange ((xs.size : Int) - 1) (-1) (-1)).filterMap (xs[·]?)).toArray = xs.toList.reverse.toArray := h
  rw [PySem.W.krv_sliceRange, List.filterMap_map] at h
  rw [← h]
  congr 1
  refine fm_congr _ _ _ fun m hm => ?_
  have := List.mem_range.mp hm
  have e : (((xs.size : Nat) : Int) - 1 + (m : Int) * (-1)).toNat = xs.size - 1 - m := by omega
  rw [e]
  rfl
theorem getItem_tuple_rev {t sl : Addr} {items : Array Value} {vl vu vs : Value} {Q : Value → Shared → Prop} (ht : IsTup s.heap t items) (hs : s.heap.IsSliceOf sl vl vu vs) (pl : IsPart vl none) (pu : IsPart vu none) (ps : IsPart vs (some (-1)))
    (h : Q (.ref s.heap.objs.size) { s with heap := s.heap.push { cls := .type "tuple", data := .seq items.toList.reverse.toArray } })
    (hsz : items.size ≤ sizeLine) : wpAny (model prog w) A (getItem (.ref t) (.ref sl)) Q E s := by
  have htake : sizeOk (.seq items.toList.reverse.toArray) := by
    show items.toList.reverse.toArray.size ≤ sizeLine
    simpa using hsz
  obtain ⟨os, hos, hcs, hds⟩ := id hs
  have hTs : s.TypeIs (.ref sl) "slice" := ⟨os, hos, hcs⟩
  unfold getItem
  try with_reducible refine wpAny_holding ?_
  first | refine wpAny_bind (wpAny_pure ?_) | skip
  refine wpAny_bind (wpAny_sequenceKey ht.typeIs (by decide) ?_)
  refine wpAny_bind (wpAny_callSpecial?_slot (name := Str.ofString "__getitem__") ht.typeIs slot_tuple_getitem
    (wpAny_call_entry slot_tuple_getitem ht.typeIs entry_tuple_getitem ?_ (args_tuple_getitem _ _)))
  show wpAny _ _ (Builtin.Tuple.tupleItemsOf (.ref t) >>= _) _ _ s
  refine wpAny_bind (tupleItemsOf_ ht ?_)
  refine wpAny_bind (wpAny_typeOf hTs ?_)
  rw [if_pos (by decide)]
  refine wpAny_bind (sliceApplied_rev hs pl pu ps ?_)
  have hno : ¬ ((((items.size : Nat) : Int) - 1 == 0 && (-1 : Int) == 1 && items.size == items.size) = true) := by simp
  show wpAny _ _ (if (((items.size : Nat) : Int) - 1 == 0 && (-1 : Int) == 1 && items.size == items.size) = true then _ else _) _ _ s
  rw [if_neg hno, pick_rev]
  first
    | exact wpAny_bind (m := Builtin.Tuple.tupleExact _) (wpAny_newObj_type (wpAny_pure ⟨_, rfl, wpAny_pure h⟩) htake)
    | exact wpAny_bind (m := Builtin.Tuple.tupleExact _) (wpAny_newObj_type (wpAny_bind (wpAny_pure (wpAny_pure ⟨_, rfl, wpAny_pure h⟩))) htake)
    | exact wpAny_bind (wpAny_bind (m := Builtin.Tuple.tupleExact _) (wpAny_newObj_type (wpAny_pure (wpAny_pure ⟨_, rfl, wpAny_pure h⟩)) htake))
    | exact wpAny_bind (wpAny_bind (m := Builtin.Tuple.tupleExact _) (wpAny_newObj_type (wpAny_pure ⟨_, rfl, wpAny_pure h⟩) htake))
end
section
variable {X : Cx} {pos p p1 p2 p3 : Pos} {e : Expr} {kk : Nat}
def tRevA (K : PySem.W.Frag) (te : TE) : TE := fun σ H Q => te σ H fun x H1 => ∃ a xs, x = .ref a ∧ ((SqL K H1 a xs ∧ ∀ p, H1 p = none → Q (.ref p) (upd H1 p (.lst xs.reverse))) ∨ (SqT K H1 a xs ∧ ∀ p, H1 p = none → Q (.ref p) (upd H1 p (.tup xs.reverse))))
theorem pe_revA {te : TE} (he : PE X e te) : PE X (.Subscript e (.Slice none none (some (.UnaryOp .USub (.Constant (.int 1) kk p1) p2)) p3) pos) (tRevA X.K te) := by
  refine ⟨fun pins s (σ : L2.St) H Q I h => ?_⟩
  refine Subscript_ (thn (he.run pins s σ H _ I h) fun v s1 ⟨x, H1, I1, r1, q1⟩ => ?_)
  obtain ⟨a, xs, ex, q⟩ := q1
  subst ex
  cases r1
  have hst : PO X (some (.UnaryOp .USub (.Constant (.int 1) kk p1) p2)) (tPart (tUn (rU fun i => .int (-i)) (tC (.int 1)))) := po_some (pe_un un_neg pe_int)
  refine wpAny_Slice (thn (po_none.run pins s1 σ H1 (fun o H2 => o = none ∧ H2 = H1) I1 ⟨rfl, rfl⟩) fun vl s2 ⟨l, H2, I2, pl, el, e2⟩ => ?_)
  subst el e2
  refine thn (po_none.run pins s2 σ H2 (fun o H3 => o = none ∧ H3 = H2) I2 ⟨rfl, rfl⟩) fun vu s3 ⟨u, H3, I3, pu, eu, e3⟩ => ?_
  subst eu e3
  refine thn (hst.run pins s3 σ H3 (fun o H4 => o = some (-1) ∧ H4 = H3) I3 ⟨1, rfl, -1, rfl, rfl, rfl⟩) fun vs s4 ⟨o, H4, I4, ps, eo, e4⟩ => ?_
  subst eo e4
  have I5 : Inv X pins σ H4 { s4 with heap := s4.heap.push { cls := .type "slice", data := .fields #[vl, vu, vs] } } := I4.kept (t' := s4.toks) fun b ob q => Heap.get?_push_of_some _ q
  show wpAny (model X.prog X.w) X.A (subscriptTail e (.Slice none none (some (.UnaryOp .USub (.Constant (.int 1) kk p1) p2)) p3) (.ref a) (.ref s4.heap.objs.size)) (EP X pins σ Q) X.xe { s4 with heap := s4.heap.push { cls := .type "slice", data := .fields #[vl, vu, vs] } }
  rcases q with ⟨hx, q⟩ | ⟨hx, q⟩
  · obtain ⟨its, r, ht, hz⟩ := I5.list hx
    have hlen := r.length
    refine tail_any (ops := [.ref a, .ref s4.heap.objs.size]) ht.isList.typeIs (PySem.slot_list_getitem.lookup) ?_ (by with_unfolding_all rfl)
    refine wpAny_getItem_list_slice ht.isList (Heap.IsSliceOf.new _ vl vu vs) pl pu ps (by decide) ?_ (by rw [List.size_toArray]; omega)
    rw [PySem.W.krv_pick]
    refine ⟨.ref _, _, I5.laid (t' := s4.toks) (o := .lst xs.reverse) (fun b ob q => Heap.get?_push_of_some _ q) (Nat.le_refl _) ?_, rfl, q _ (I5.hok.fresh (Nat.le_refl _))⟩
    exact ⟨by rw [List.length_reverse]; exact hz, _, 0, r.reverse, Heap.get?_push_size _ rfl⟩
  · obtain ⟨its, r, ht, hz⟩ := I5.tuple hx
    have hlen := r.length
    refine tail_any (ops := [.ref a, .ref s4.heap.objs.size]) ht.typeIs (slot_tuple_getitem.lookup) ?_ (by with_unfolding_all rfl)
    refine getItem_tuple_rev ht (Heap.IsSliceOf.new _ vl vu vs) pl pu ps ?_ (by rw [List.size_toArray]; omega)
    refine ⟨.ref _, _, I5.laid (t' := s4.toks) (o := .tup xs.reverse) (fun b ob q => Heap.get?_push_of_some _ q) (Nat.le_refl _) ?_, rfl, q _ (I5.hok.fresh (Nat.le_refl _))⟩
    exact ⟨by rw [List.length_reverse]; exact hz, _, r.reverse, IsTup.new _ _⟩
end
end Qd
namespace Qd
open PySem PySem.Spec L2
section
variable {X : Cx} {W : WX} {pos p p1 p2 p3 : Pos} {x : Str} {e e1 e2 : Expr} {es : List Expr} {f k : SE} {g : SA} {kk : Nat}
def dRev (d : D) (ah : List AO) : R D := match look ah d with
  | .lst ds => .ok (.lst ds.reverse) ah
  | .tup ds => .ok (.tup ds.reverse) ah
  | _ => .stuck
def cRev (f : SE) : SE := fun ρ ah => (f ρ ah).bind fun d ah1 => dRev d ah1
theorem de_rev (h1 : DE X W e f) : DE X W (.Subscript e (.Slice none none (some (.UnaryOp .USub (.Constant (.int 1) kk p1) p2)) p3) pos) (cRev f) := by
  refine ⟨(pe_revA h1.pe).weak fun σ H Q h => ?_⟩
  obtain ⟨Z, ι, ρ, ah, hH, hE, h⟩ := h
  refine ⟨Z, ι, ρ, ah, hH, hE, h.bind.mono fun d ah1 ι1 H1 x1 hH1 hq v rv => ?_⟩
  clear h
  unfold dRev at hq
  split at hq
  · rename_i ds ea
    obtain ⟨p, vs, rfl, f1, l1, r1⟩ := look_lst hH1 rv ea
    exact ⟨p, vs, rfl, .inl ⟨f1, fun t ht => hq ι1 _ (ext_new ht) (hH1.new ht) _ (rv_lst hH1 ht r1.reverse (by rw [List.length_reverse]; exact l1))⟩⟩
  · rename_i ds ea
    obtain ⟨p, vs, rfl, rfl, f1, l1, r1⟩ := look_tup rv ea
    exact ⟨p, vs, rfl, .inr ⟨f1.sq, fun t ht => hq ι1 _ (ext_new ht) (hH1.new ht) _ (rv_tup hH1 ht r1.reverse (by rw [List.length_reverse]; exact l1))⟩⟩
  · exact hq.elim
abbrev dAddI : DOp := dInt (fun _ _ => true) (· + ·)
/-! ### zip of two lists, of two tuples -/
def zipD (xs ys : List D) : List D := List.zipWith (fun x y => D.tup [x, y]) xs ys
theorem zipD_get {xs ys : List D} {i : Nat} {d : D} (h : (zipD xs ys)[i]? = some d) : ∃ x y, xs[i]? = some x ∧ ys[i]? = some y ∧ d = .tup [x, y] := by
  unfold zipD at h
  rw [List.getElem?_zipWith] at h
  cases e1 : xs[i]? with
  | none => rw [e1] at h; cases h
  | some x =>
    cases e2 : ys[i]? with
    | none => rw [e1, e2] at h; cases h
    | some y => rw [e1, e2] at h; cases h; exact ⟨x, y, rfl, rfl, rfl⟩
def isTupD (d : D) : Bool := match d with
  | .tup _ => true
  | _ => false
def iZip (g : SA) : SI := fun ρ ah => (g ρ ah).bind fun ds ah1 => match ds with
  | [a, b] => match itOf ah1 a, itOf ah1 b with
    | some u, some v => if (isTupD a == isTupD b) = true then .ok ⟨zipD u.items v.items, u.held ++ v.held⟩ ah1 else .stuck
    | _, _ => .stuck
  | _ => .stuck
theorem heldOk_app {h1 h2 : List (Nat × List D)} {ah : List AO} (h : heldOk (h1 ++ h2) ah = true) : heldOk h1 ah = true ∧ heldOk h2 ah = true := by
  have q := heldOk_at h
  unfold heldOk
  exact ⟨@decide_eq_true _ (Classical.propDecidable _) fun p hp => q p (List.mem_append_left _ hp), @decide_eq_true _ (Classical.propDecidable _) fun p hp => q p (List.mem_append_right _ hp)⟩
theorem pair_line : ([V.non, V.non] : List V).length ≤ sizeLine := by show 2 ≤ sizeLine; decide
theorem zip_ok {S : Sr} {Z ι : List Addr} {H : Hp} {u v : ItV} {a b : Addr} (wa : WalkL S Z ι H u a) (wb : WalkL S Z ι H v b) : ItOk S Z ι H (Itz S.K a b) ⟨zipD u.items v.items, u.held ++ v.held⟩ := by
  refine ⟨?_, fun Z2 ι2 H2 ah2 m x hH hk i d hd => ?_, fun Z2 ι2 H2 ah2 m x hH hk => ?_⟩
  · show (zipD u.items v.items).length ≤ sizeLine
    unfold zipD
    rw [List.length_zipWith]
    exact Nat.le_trans (Nat.min_le_left _ _) wa.1
  · obtain ⟨k1, k2⟩ := heldOk_app hk
    obtain ⟨xs, h1, h2⟩ := wa.2 Z2 ι2 H2 ah2 m x hH k1
    obtain ⟨ys, h3, h4⟩ := wb.2 Z2 ι2 H2 ah2 m x hH k2
    obtain ⟨p, q, e1, e2, rfl⟩ := zipD_get hd
    obtain ⟨vp, ep, rp⟩ := h2.get e1
    obtain ⟨vq, eq, rq⟩ := h4.get e2
    refine ⟨⟨xs, ys, vp, vq, h1, h3, ep, eq⟩, fun y H3 hy => ?_⟩
    obtain ⟨T, x', y', rfl, hT, rfl, q1, q2⟩ := hy
    have z1 := q1 xs h1
    have z2 := q2 ys h3
    rw [ep] at z1; cases z1
    rw [eq] at z2; cases z2
    exact ⟨ext_new hT, hH.new hT, rv_tup hH hT (.cons rp (.one rq)) pair_line, fun c o q => by rw [upd_ne (ne_of_none q hT)]; exact q⟩
  · obtain ⟨k1, k2⟩ := heldOk_app hk
    obtain ⟨xs, h1, h2⟩ := wa.2 Z2 ι2 H2 ah2 m x hH k1
    obtain ⟨ys, h3, h4⟩ := wb.2 Z2 ι2 H2 ah2 m x hH k2
    refine ⟨xs, ys, h1, h3, ?_⟩
    show xs.length ≤ (zipD u.items v.items).length ∨ ys.length ≤ (zipD u.items v.items).length
    unfold zipD
    rw [List.length_zipWith, ← h2.length, ← h4.length]
    omega
theorem zipT_ok {S : Sr} {Z ι : List Addr} {H : Hp} {u v : ItV} {a b : Addr} (wa : WalkT S Z ι H u a) (wb : WalkT S Z ι H v b) : ItOk S Z ι H (RZ.ItzT S.K a b) ⟨zipD u.items v.items, u.held ++ v.held⟩ := by
  refine ⟨?_, fun Z2 ι2 H2 ah2 m x hH hk i d hd => ?_, fun Z2 ι2 H2 ah2 m x hH hk => ?_⟩
  · show (zipD u.items v.items).length ≤ sizeLine
    unfold zipD
    rw [List.length_zipWith]
    exact Nat.le_trans (Nat.min_le_left _ _) wa.1
  · obtain ⟨k1, k2⟩ := heldOk_app hk
    obtain ⟨xs, h1, h2⟩ := wa.2 Z2 ι2 H2 ah2 m x hH k1
    obtain ⟨ys, h3, h4⟩ := wb.2 Z2 ι2 H2 ah2 m x hH k2
    obtain ⟨p, q, e1, e2, rfl⟩ := zipD_get hd
    obtain ⟨vp, ep, rp⟩ := h2.get e1
    obtain ⟨vq, eq, rq⟩ := h4.get e2
    refine ⟨⟨xs, ys, vp, vq, h1, h3, ep, eq⟩, fun y H3 hy => ?_⟩
    obtain ⟨T, x', y', rfl, hT, rfl, q1, q2⟩ := hy
    have z1 := q1 xs h1
    have z2 := q2 ys h3
    rw [ep] at z1; cases z1
    rw [eq] at z2; cases z2
    exact ⟨ext_new hT, hH.new hT, rv_tup hH hT (.cons rp (.one rq)) pair_line, fun c o q => by rw [upd_ne (ne_of_none q hT)]; exact q⟩
  · obtain ⟨k1, k2⟩ := heldOk_app hk
    obtain ⟨xs, h1, h2⟩ := wa.2 Z2 ι2 H2 ah2 m x hH k1
    obtain ⟨ys, h3, h4⟩ := wb.2 Z2 ι2 H2 ah2 m x hH k2
    refine ⟨xs, ys, h1, h3, ?_⟩
    show xs.length ≤ (zipD u.items v.items).length ∨ ys.length ≤ (zipD u.items v.items).length
    unfold zipD
    rw [List.length_zipWith, ← h2.length, ← h4.length]
    omega
theorem itOf_walkT {S : Sr} {Z ι : List Addr} {H : Hp} {ah : List AO} {d : D} {v : V} {iv : ItV} (hH : RH S Z ι H ah) (r : RV S.K Z ι H d v) (e : itOf ah d = some iv) (ht : isTupD d = true) : ∃ a, v = .ref a ∧ WalkT S Z ι H iv a ∧ ∃ xs, SqT S.K H a xs := by
  cases r with
  | @tup a xs ds f l r =>
    cases e
    exact ⟨a, rfl, ⟨by rw [r.length]; exact l, fun Z2 ι2 H2 ah2 m x hH2 hk => ⟨xs, (f.more x m).sq, r.more x m⟩⟩, xs, f.sq⟩
  | _ => simp [isTupD] at ht
theorem itOf_walkL {S : Sr} {Z ι : List Addr} {H : Hp} {ah : List AO} {d : D} {v : V} {iv : ItV} (hH : RH S Z ι H ah) (r : RV S.K Z ι H d v) (e : itOf ah d = some iv) (ht : isTupD d = false) : ∃ a, v = .ref a ∧ WalkL S Z ι H iv a ∧ ∃ xs, SqL S.K H a xs := by
  obtain ⟨a, h, q | ⟨_, _, ds, rfl⟩⟩ := itOf_walk hH r e
  · exact ⟨a, h, q⟩
  · simp [isTupD] at ht
theorem di_zip {elts : List Expr} {tpos : Pos} (hm : X.mg "zip" = none) (ha : DA X W [e1, e2] g) (hg : Gl X "zip" := by rfl) (hs : starEach [e1, e2] X.env = (false, eval e1 X.env) :: starEach [e2] X.env := by rfl) (hpl : (backTo pos (starEach [e2] X.env)).any (·.1) = false := by rfl) :
    DI X W (.Tuple elts kk tpos) (.Call (.Name "zip" p) [e1, e2] [] pos) (iZip g) := by
  refine ⟨(RZ.pi_zipA hg hm ha.pa hs hpl).weak fun σ H R h => ?_⟩
  obtain ⟨Z, ι, ρ, ah, hH, hE, h⟩ := h
  refine ⟨Z, ι, ρ, ah, hH, hE, h.bind.mono fun ds ah1 ι1 H1 x1 hH1 hq vs rvs => ?_⟩
  clear h
  split at hq
  · rename_i a b
    cases rvs with
    | cons ra rs =>
      cases rs with
      | cons rb rs =>
        cases rs
        split at hq
        · rename_i u v ea eb
          split at hq
          · rename_i hty
            have q := hq.now hH1
            cases ta : isTupD a with
            | true =>
              have tb : isTupD b = true := by rw [ta] at hty; simpa using hty
              obtain ⟨pa, rfl, wa, xs, sa⟩ := itOf_walkT hH1 ra ea ta
              obtain ⟨pb, rfl, wb, ys, sb⟩ := itOf_walkT hH1 rb eb tb
              exact ⟨pa, pb, xs, ys, rfl, .inr ⟨sa, sb, q _ (zipT_ok wa wb)⟩⟩
            | false =>
              have tb : isTupD b = false := by rw [ta] at hty; simpa using hty
              obtain ⟨pa, rfl, wa, xs, sa⟩ := itOf_walkL hH1 ra ea ta
              obtain ⟨pb, rfl, wb, ys, sb⟩ := itOf_walkL hH1 rb eb tb
              exact ⟨pa, pb, xs, ys, rfl, .inl ⟨sa, sb, q _ (zip_ok wa wb)⟩⟩
          · exact hq.elim
        · exact hq.elim
  · exact hq.elim
end
theorem fn_run2 {P : Program} {w : World} {K : PySem.W.Frag} {mg : Str → Option Value} {base : Heap} {x qual : Str} {st : Stmt} {f : Addr} {fd : FuncData} {N ps : List Str} {k m : Nat} {s : SS} {FF0 : FF} (hF : FF0 = runF m s) (hm : m = N.length) (F : Fun K x qual st f fd) (S : FnScope N ps (defScope st))
    (body : ∀ (cdv : Value) (A : Around) (outer : List Env) (s0 : Shared) (H : Hp) (E : XK), Room k (A.deeper (PyProof.Rows.envOfC qual (defScope st) s0.heap.objs.size f cdv)) → Rm (cxD P w K mg base N qual st f cdv A outer s0 H E) → DSs (cxD P w K mg base N qual st f cdv A outer s0 H E) (wxE E) (defBody st) s) :
    Fn P w K mg base (k + 1) f fd ps FF0 := by 
  subst hm
  refine hF ▸ fn_run F S fun cdv A outer s0 H E hr => body cdv A outer s0 H E hr ?_
  have h : (A.deeper (PyProof.Rows.envOfC qual (defScope st) s0.heap.objs.size f cdv)).units + 16 * k + 200 < cLine := hr.un
  show (A.deeper (PyProof.Rows.envOfC qual (defScope st) s0.heap.objs.size f cdv)).units + 130 < cLine
  omega
end Qd

set_option Elab.async false
set_option linter.all false
set_option maxRecDepth 100000
set_option maxHeartbeats 2000000
/-! QZip: list(zip(a, b)) over lists and tuples. -/
namespace Qd
open PySem PySem.Spec PyProof.Rows L2
section
variable {prog : Program} {w : World} {A : Around} {E : Value → Shared → Prop} {s : Shared} {z TI TO i1 i2 T : Addr} {fp1 fp2 : List Addr} {n1 n2 i : Nat} {P1 P2 : Nat → Value → Prop} {St1 St2 : Nat → Heap → Prop} {f : Bool} {oT : Obj}
theorem zipH2_next_item {Q : Value → Shared → Prop} (S : ZipSep2 z TI TO i1 i2 fp1 fp2) (D1 : Draws prog w A i1 fp1 n1 P1 St1) (D2 : Draws prog w A i2 fp2 n2 P2 St2)
    (hz : IsZipHeld s.heap z TI TO T f) (hT : s.heap.get? T = some oT) (hTI : IsTupOf2 s.heap TI (.ref i1) (.ref i2)) (st1 : St1 i s.heap) (st2 : St2 i s.heap) (hlt1 : i < n1) (hlt2 : i < n2)
    (hQ : ∀ x1 x2 h' tk, P1 i x1 → P2 i x2 → IsZipHeld h' z TI TO T true → St1 (i + 1) h' → St2 (i + 1) h' → IsTupOf2 h' s.heap.objs.size x1 x2 → h'.objs.size = s.heap.objs.size + 1 →
      (∀ c o, c ≠ z → c ≠ i1 → c ≠ i2 → s.heap.get? c = some o → h'.get? c = some o) → Q (.ref s.heap.objs.size) { s with heap := h', toks := tk }) :
    wpAny (model prog w) A (Builtin.«zip.__next__» ⟨[.ref z], []⟩) (fun fin s' => ∃ v, fin = .done (.ret v) ∧ Q v s') E s := by
  obtain ⟨hp, g, d, tk0, os⟩ := s
  show wpAny _ _ (field (.ref z) 2 >>= _) _ _ _
  refine wpAny_bind (wpAny_field hz rfl (x := .bool false) rfl ?_)
  show wpAny _ _ (field (.ref z) 3 >>= _) _ _ _
  refine wpAny_bind (wpAny_field hz rfl (x := .ref TI) rfl ?_)
  refine wpAny_bind (wpAny_seqItems hTI rfl ?_)
  show wpAny _ _ (Builtin.SmallTypes.ownedTupleIsFree (.ref z) >>= _) _ _ _
  refine wpAny_bind (wpAny_tupleHeld_zip hz hT fun h₁ hz₁ hs₁ => ?_)
  replace hs₁ : Heap.SameBut z hp h₁ := hs₁
  simp only [Bool.false_eq_true, if_false]
  refine wpAny_bind ?_
  rw [← Array.forIn_toList]
  simp only [List.forIn_cons, List.forIn_nil]
  refine wpAny_bind (wpAny_bind (wpAny_holding ?_))
  show wpAny _ _ (Builtin.SmallTypes.nextOf (.ref i1) >>= _) _ _ ⟨h₁, g, d, tk0, os⟩
  refine wpAny_bind (D1.item i _ _ _ hlt1 (D1.over st1 hs₁ S.zf1) fun x1 h₂ tk1 hx1 sn1 hs₂ => wpAny_pure ?_)
  replace hs₂ : Heap.SameBut i1 h₁ h₂ := hs₂
  refine wpAny_pure ?_
  refine wpAny_bind (wpAny_bind (wpAny_holding ?_))
  show wpAny _ _ (Builtin.SmallTypes.nextOf (.ref i2) >>= _) _ _ ⟨h₂, g, d, tk1, os⟩
  refine wpAny_bind (D2.item i _ _ _ hlt2 (D2.over (D2.over st2 hs₁ S.zf2) hs₂ S.sep1_2) fun x2 h₃ tk2 hx2 sn2 hs₃ => wpAny_pure ?_)
  replace hs₃ : Heap.SameBut i2 h₂ h₃ := hs₃
  refine wpAny_pure (wpAny_pure ?_)
  show wpAny _ _ (newTuple [x1, x2] >>= _) _ _ ⟨h₃, g, d, tk2, os⟩
  refine wpAny_bind (wpAny_newTuple ?_)
  have hsz : h₃.objs.size = hp.objs.size := by rw [hs₃.1, hs₂.1, hs₁.1]
  have hz₃ : IsZipHeld h₃ z TI TO T true := hs₃.extBut _ _ S.zi2 (hs₂.extBut _ _ S.zi1 hz₁)
  have hk : ∀ c o, c ≠ z → c ≠ i1 → c ≠ i2 → hp.get? c = some o → h₃.get? c = some o := fun c o c1 c2 c3 e => hs₃.extBut _ _ c3 (hs₂.extBut _ _ c2 (hs₁.extBut _ _ c1 e))
  have hj1 : St1 (i + 1) h₃ := D1.over sn1 hs₃ S.sep2_1
  refine wpAny_pure ⟨_, rfl, ?_⟩
  show Q (.ref h₃.objs.size) _
  have hp' : IsTupOf2 (h₃.push { cls := .type "tuple", data := .seq #[x1, x2] }) h₃.objs.size x1 x2 := Heap.get?_push_size _ rfl
  have hz4 : (h₃.push { cls := .type "tuple", data := .seq #[x1, x2] }).objs.size = h₃.objs.size + 1 := Heap.size_push ..
  rw [hsz] at hp' hz4 ⊢
  exact hQ x1 x2 _ tk2 hx1 hx2 (Heap.get?_push_of_some _ hz₃) (D1.frame _ _ _ hj1 fun b _ o e => Heap.get?_push_of_some _ e) (D2.frame _ _ _ sn2 fun b _ o e => Heap.get?_push_of_some _ e) hp' hz4 fun c o c1 c2 c3 e => Heap.get?_push_of_some _ (hk c o c1 c2 c3 e)
theorem zipH2_next_end {Q : Fin → Shared → Prop} (S : ZipSep2 z TI TO i1 i2 fp1 fp2) (D1 : Draws prog w A i1 fp1 n1 P1 St1) (D2 : Draws prog w A i2 fp2 n2 P2 St2)
    (hz : IsZipHeld s.heap z TI TO T f) (hT : s.heap.get? T = some oT) (hTI : IsTupOf2 s.heap TI (.ref i1) (.ref i2)) (st1 : St1 i s.heap) (st2 : St2 i s.heap) (hl1 : i ≤ n1) (hl2 : i ≤ n2) (hend : i = n1 ∨ i = n2)
    (hE : ∀ h' e tk, (∀ c o, c ≠ z → c ≠ i1 → c ≠ i2 → s.heap.get? c = some o → h'.get? c = some o) → (∃ o, h'.get? e = some o ∧ o.cls = .type "StopIteration") → E (.ref e) { s with heap := h', toks := tk }) :
    wpAny (model prog w) A (Builtin.«zip.__next__» ⟨[.ref z], []⟩) Q E s := by
  obtain ⟨hp, g, d, tk0, os⟩ := s
  show wpAny _ _ (field (.ref z) 2 >>= _) _ _ _
  refine wpAny_bind (wpAny_field hz rfl (x := .bool false) rfl ?_)
  show wpAny _ _ (field (.ref z) 3 >>= _) _ _ _
  refine wpAny_bind (wpAny_field hz rfl (x := .ref TI) rfl ?_)
  refine wpAny_bind (wpAny_seqItems hTI rfl ?_)
  show wpAny _ _ (Builtin.SmallTypes.ownedTupleIsFree (.ref z) >>= _) _ _ _
  refine wpAny_bind (wpAny_tupleHeld_zip hz hT fun h₁ hz₁ hs₁ => ?_)
  replace hs₁ : Heap.SameBut z hp h₁ := hs₁
  simp only [Bool.false_eq_true, if_false]
  refine wpAny_bind ?_
  rw [← Array.forIn_toList]
  simp only [List.forIn_cons, List.forIn_nil]
  refine wpAny_bind (wpAny_bind (wpAny_holding ?_))
  show wpAny _ _ (Builtin.SmallTypes.nextOf (.ref i1) >>= _) _ _ ⟨h₁, g, d, tk0, os⟩
  by_cases he : i = n1
  · subst he
    refine wpAny_bind (D1.done _ _ _ (D1.over st1 hs₁ S.zf1) fun h₂ e hs₂ x => ?_)
    replace hs₂ : Heap.ExtBut i1 h₁ h₂ := hs₂
    exact hE h₂ e tk0 (fun c o c1 c2 _ x => hs₂ _ _ c2 (hs₁.extBut _ _ c1 x)) x
  · have hi2 : i = n2 := hend.resolve_left he
    refine wpAny_bind (D1.item i _ _ _ (by omega) (D1.over st1 hs₁ S.zf1) fun x1 h₂ tk1 hx1 sn1 hs₂ => wpAny_pure ?_)
    replace hs₂ : Heap.SameBut i1 h₁ h₂ := hs₂
    refine wpAny_pure ?_
    refine wpAny_bind (wpAny_bind (wpAny_holding ?_))
    show wpAny _ _ (Builtin.SmallTypes.nextOf (.ref i2) >>= _) _ _ ⟨h₂, g, d, tk1, os⟩
    refine wpAny_bind (D2.done _ _ _ (hi2 ▸ D2.over (D2.over st2 hs₁ S.zf2) hs₂ S.sep1_2) fun h₃ e hs₃ x => ?_)
    replace hs₃ : Heap.ExtBut i2 h₂ h₃ := hs₃
    exact hE h₃ e tk1 (fun c o c1 c2 c3 x => hs₃ _ _ c3 (hs₂.extBut _ _ c2 (hs₁.extBut _ _ c1 x))) x
theorem pyNext_zipH2_item {Q : Option Value → Shared → Prop} (S : ZipSep2 z TI TO i1 i2 fp1 fp2) (D1 : Draws prog w A.in1 i1 fp1 n1 P1 St1) (D2 : Draws prog w A.in1 i2 fp2 n2 P2 St2)
    (hz : IsZipHeld s.heap z TI TO T f) (hT : s.heap.get? T = some oT) (hTI : IsTupOf2 s.heap TI (.ref i1) (.ref i2)) (st1 : St1 i s.heap) (st2 : St2 i s.heap) (hlt1 : i < n1) (hlt2 : i < n2)
    (hQ : ∀ x1 x2 h' tk, P1 i x1 → P2 i x2 → IsZipHeld h' z TI TO T true → St1 (i + 1) h' → St2 (i + 1) h' → IsTupOf2 h' s.heap.objs.size x1 x2 → h'.objs.size = s.heap.objs.size + 1 →
      (∀ c o, c ≠ z → c ≠ i1 → c ≠ i2 → s.heap.get? c = some o → h'.get? c = some o) → Q (some (.ref s.heap.objs.size)) { s with heap := h', toks := tk }) :
    wpAny (model prog w) A (pyNext (.ref z)) Q E s := by
  have hTy : s.TypeIs (.ref z) "zip" := ⟨_, hz, rfl⟩
  unfold pyNext
  exact wpAny_bind (wpAny_attempt (wpAny_callSpecial?_slot (name := Str.ofString "__next__") hTy F.slot_zip_next
    (wpAny_call_entry F.slot_zip_next hTy F.entry_zip_next
      (zipH2_next_item S D1 D2 hz hT hTI st1 st2 hlt1 hlt2 fun x1 x2 h' tk a1 a2 a3 a4 a5 a6 a7 a8 => wpAny_pure (hQ x1 x2 h' tk a1 a2 a3 a4 a5 a6 a7 a8)) (F.args_zip_next_1 _))))
theorem pyNext_zipH2_end {Q : Option Value → Shared → Prop} (S : ZipSep2 z TI TO i1 i2 fp1 fp2) (D1 : Draws prog w A.in1 i1 fp1 n1 P1 St1) (D2 : Draws prog w A.in1 i2 fp2 n2 P2 St2)
    (hz : IsZipHeld s.heap z TI TO T f) (hT : s.heap.get? T = some oT) (hTI : IsTupOf2 s.heap TI (.ref i1) (.ref i2)) (st1 : St1 i s.heap) (st2 : St2 i s.heap) (hl1 : i ≤ n1) (hl2 : i ≤ n2) (hend : i = n1 ∨ i = n2)
    (hQ : ∀ h' tk, (∀ c o, c ≠ z → c ≠ i1 → c ≠ i2 → s.heap.get? c = some o → h'.get? c = some o) → Q none { s with heap := h', toks := tk }) :
    wpAny (model prog w) A (pyNext (.ref z)) Q E s := by
  have hTy : s.TypeIs (.ref z) "zip" := ⟨_, hz, rfl⟩
  unfold pyNext
  refine wpAny_bind (wpAny_attempt (wpAny_callSpecial?_slot (name := Str.ofString "__next__") hTy F.slot_zip_next
    (wpAny_call_entry F.slot_zip_next hTy F.entry_zip_next (zipH2_next_end S D1 D2 hz hT hTI st1 st2 hl1 hl2 hend fun h' e tk hk he => ?_) (F.args_zip_next_1 _))))
  obtain ⟨o, ho, hc⟩ := he
  refine wpAny_bind (wpAny_isInstance (T := "StopIteration") (b := true) ⟨o, ho, hc⟩ isSubtype_stop ?_)
  exact wpAny_pure (hQ _ _ hk)
end

theorem zip_no_len : typeLookup (.type "zip") "__len__" = pure none := am_miss_of_fast (by decide +kernel)
theorem zip_no_hint : typeLookup (.type "zip") "__length_hint__" = pure none := am_miss_of_fast (by decide +kernel)
/-- a walk over a list or a tuple, ready to be drawn from -/
structure SeqW (it a : Addr) (its : Array Value) (St : Nat → Heap → Prop) : Prop where
  dr : ∀ (prog : Program) (w : World) (A : Around), A.handled = none → Draws prog w A it [it, a] its.size (fun i v => its[i]? = some v) St
  frame : ∀ i (h h' : Heap), St i h → (∀ b, b = it ∨ b = a → ∀ o, h.get? b = some o → h'.get? b = some o) → St i h'
theorem seqW_list (it a : Addr) (its : Array Value) (h : a ≠ it) : SeqW it a its (fun i h => h.IsListIter it a i ∧ h.IsList a its) :=
  ⟨fun _ _ _ hh => Draws.list hh it a h its, fun _ _ _ st hk => ⟨st.1.at fun o e => hk it (.inl rfl) o e, st.2.at fun o e => hk a (.inr rfl) o e⟩⟩
theorem seqW_tuple (it a : Addr) (its : Array Value) (h : a ≠ it) : SeqW it a its (fun i h => h.IsTupleIter it a i ∧ h.IsTuple a its) :=
  ⟨fun _ _ _ hh => Draws.tuple hh it a h its, fun _ _ _ st hk => ⟨st.1.at fun o e => hk it (.inl rfl) o e, st.2.at fun o e => hk a (.inr rfl) o e⟩⟩
def ZipSt (h : Heap) (z TI TO i1 i2 S : Addr) (St1 St2 : Nat → Heap → Prop) (i : Nat) : Prop :=
  IsTupOf2 h TI (.ref i1) (.ref i2) ∧ St1 i h ∧ St2 i h ∧ ((IsZip h z TI TO .none ∧ ∃ a b, IsTupOf2 h TO a b) ∨ ∃ T f oT, IsZipHeld h z TI TO T f ∧ h.get? T = some oT ∧ T ≠ z ∧ T ≠ i1 ∧ T ≠ i2 ∧ T ≠ S)
structure Apart (S z TI TO i1 i2 a b : Addr) : Prop where
  z : S ≠ z
  TI : S ≠ TI
  TO : S ≠ TO
  i1 : S ≠ i1
  i2 : S ≠ i2
  a : S ≠ a
  b : S ≠ b
theorem zipSt_frame {h h' : Heap} {z TI TO i1 i2 S a b : Addr} {xs ys : Array Value} {St1 St2 : Nat → Heap → Prop} {i : Nat} (W1 : SeqW i1 a xs St1) (W2 : SeqW i2 b ys St2) (st : ZipSt h z TI TO i1 i2 S St1 St2 i)
    (n : Apart S z TI TO i1 i2 a b) (k : ∀ c o, c ≠ S → h.get? c = some o → h'.get? c = some o) : ZipSt h' z TI TO i1 i2 S St1 St2 i := by
  obtain ⟨h1, s1, s2, hz⟩ := st
  refine ⟨k _ _ n.TI.symm h1, W1.frame _ _ _ s1 fun c hc o e => k c o (fun z => ?_) e, W2.frame _ _ _ s2 fun c hc o e => k c o (fun z => ?_) e, ?_⟩
  · subst z; rcases hc with q | q
    · exact n.i1 q
    · exact n.a q
  · subst z; rcases hc with q | q
    · exact n.i2 q
    · exact n.b q
  · rcases hz with ⟨hz, p, q, ho⟩ | ⟨T, f, oT, hz, hT, r1, r2, r3, r4⟩
    · exact .inl ⟨k _ _ n.z.symm hz, p, q, k _ _ n.TO.symm ho⟩
    · exact .inr ⟨T, f, oT, k _ _ n.z.symm hz, k _ _ r4 hT, r1, r2, r3, r4⟩
/-- what the walk has made of the two rows so far -/
structure ZipMade (H1 : Hp) (S : Addr) (xs ys : List V) (i : Nat) (ws : List V) (H : Hp) : Prop where
  len : ws.length = i
  grow : ∀ b o, H1 b = some o → H b = some o
  at_ : H S = some (.lst ws)
  free : H1 S = none
  tup : ∀ (j : Nat) x y, j < i → xs[j]? = some x → ys[j]? = some y → ∃ T, ws[j]? = some (.ref T) ∧ H1 T = none ∧ T ≠ S ∧ H T = some (.tup [x, y])
theorem vals_get' {xs : List V} {us : List Value} (h : Vals xs us) {i : Nat} {u : Value} (e : us[i]? = some u) : ∃ x, xs[i]? = some x ∧ RelV x u := by
  have hl := h.length
  have hi : i < us.length := by
    rcases Nat.lt_or_ge i us.length with q | q
    · exact q
    · rw [List.getElem?_eq_none q] at e; cases e
  have hx : xs[i]? = some xs[i] := List.getElem?_eq_getElem (by omega)
  obtain ⟨w, q, r⟩ := h.get hx
  rw [e] at q; cases q
  exact ⟨_, hx, r⟩
section
variable {X : Cx} {pins : List (Addr × Obj)} {σ : L2.St} {z TI TO i1 i2 S a b : Addr} {its1 its2 : Array Value} {xs ys : List V} {St1 St2 : Nat → Heap → Prop} {H1 : Hp} {R : Result → Shared → Prop}
theorem zip_loop (W1 : SeqW i1 a its1 St1) (W2 : SeqW i2 b its2 St2) (Sp : ZipSep2 z TI TO i1 i2 [i1, a] [i2, b]) (n : Apart S z TI TO i1 i2 a b) (v1 : Vals xs its1.toList) (v2 : Vals ys its2.toList) (hz1 : its1.size ≤ sizeLine) (res : Value) :
    ∀ (k i : Nat) (A : Around) (s : Shared) (H : Hp) (acc : Array Value) (c : Nat) (ws : List V), A.handled = none → min its1.size its2.size - i = k → i ≤ min its1.size its2.size → Inv X pins σ H s → (∀ c ∈ [z, TI, TO, i1, i2], FpOk X pins H c ∧ c < s.heap.objs.size) → ZipSt s.heap z TI TO i1 i2 S St1 St2 i →
      s.heap.get? S = some { cls := .type "list", dict := none, data := .seq acc c, slots := #[] } → Vals ws acc.toList → ZipMade H1 S xs ys i ws H →
      (∀ s' H' ws', Inv X pins σ H' s' → ZipMade H1 S xs ys (min its1.size its2.size) ws' H' → R (.ok (.ret res)) s') →
      codeAny (model X.prog X.w) A (.builtin "list.extend.loop" ⟨[.ref S, .ref z, res], []⟩) R s := by
  intro k
  induction k with
  | zero =>
    intro i A s H acc c ws hh hk hi I hf st hS hv M hR
    have hin : i = min its1.size its2.size := by omega
    obtain ⟨hTI, s1, s2, hz⟩ := st
    have hend : i = its1.size ∨ i = its2.size := by omega
    have fin : ∀ h' tk, (∀ c o, c ≠ z → c ≠ TO → c ≠ i1 → c ≠ i2 → s.heap.get? c = some o → h'.get? c = some o) → R (.ok (.ret res)) { s with heap := h', toks := tk } := fun h' tk hk =>
      hR _ H ws (I.turnedL (ch := [z, TI, TO, i1, i2]) (fun c o hc q => hk c o (fun e => hc (by simp [e])) (fun e => hc (by simp [e])) (fun e => hc (by simp [e])) (fun e => hc (by simp [e])) q) fun c hc => (hf c hc).1) (hin ▸ M)
    refine codeAny_builtin F.entry_extend_loop ?_
    rw [Around.under_plainId F.plain_extend_loop _]
    show wpAny _ A.in1 (pyNext (.ref z) >>= _) _ _ s
    rcases hz with ⟨hz, p, q, ho⟩ | ⟨T, f, oT, hz, hT, r1, r2, r3, r4⟩
    · exact wpAny_bind (wpAny_pyNext_zipD2_end Sp (W1.dr _ _ _ hh) (W2.dr _ _ _ hh) hz hTI ho s1 s2 (by omega) (by omega) hend fun h' tk hk => wpAny_pure (fin h' tk hk))
    · exact wpAny_bind (pyNext_zipH2_end Sp (W1.dr _ _ _ hh) (W2.dr _ _ _ hh) hz hT hTI s1 s2 (by omega) (by omega) hend fun h' tk hk => wpAny_pure (fin h' tk fun c o c1 _ c3 c4 e => hk c o c1 c3 c4 e))
  | succ k ih =>
    intro i A s H acc c ws hh hk hi I hf st hS hv M hR
    obtain ⟨hTI, s1, s2, hz⟩ := st
    have lt1 : i < its1.size := by omega
    have lt2 : i < its2.size := by omega
    have lS : S < s.heap.objs.size := Heap.lt_size hS
    have lz : z < s.heap.objs.size := by rcases hz with ⟨hz, _⟩ | ⟨_, _, _, hz, _⟩ <;> exact Heap.lt_size hz
    have hacc : acc.size = i := by
      have q := hv.length
      rw [Array.length_toList] at q
      exact q.symm.trans M.len
    have go : ∀ x1 x2 h' tk, its1[i]? = some x1 → its2[i]? = some x2 → ((∃ T f oT, IsZipHeld h' z TI TO T f ∧ h'.get? T = some oT ∧ T ≠ z ∧ T ≠ i1 ∧ T ≠ i2 ∧ T ≠ S)) → St1 (i + 1) h' → St2 (i + 1) h' → IsTupOf2 h' s.heap.objs.size x1 x2 → h'.objs.size = s.heap.objs.size + 1 →
        (∀ c o, c ≠ z → c ≠ TO → c ≠ i1 → c ≠ i2 → s.heap.get? c = some o → h'.get? c = some o) →
        wpAny (model X.prog X.w) A.in1 (updateSeq S (·.push (.ref s.heap.objs.size)) >>= fun _ => again (.builtin "list.extend.loop" ⟨[.ref S, .ref z, res], []⟩))
          (fun fin s' => match fin with | .done f => R (.ok f) s' | .again c' => c'.quiet = true ∧ codeAny (model X.prog X.w) A c' R s') (fun e s' => R (.error e) s') { s with heap := h', toks := tk } := by
      intro x1 x2 h' tk e1 e2 hz' t1 t2 hT hsz hkk
      obtain ⟨x, hx, rx⟩ := vals_get' v1 (i := i) (u := x1) (by rw [Array.getElem?_toList]; exact e1)
      obtain ⟨y, hy, ry⟩ := vals_get' v2 (i := i) (u := x2) (by rw [Array.getElem?_toList]; exact e2)
      have fr : H s.heap.objs.size = none := I.hok.fresh (Nat.le_refl _)
      have new : ObjOk X.prog X.w (upd H s.heap.objs.size (.tup [x, y])) h' s.heap.objs.size (.tup [x, y]) :=
        ⟨by show 2 ≤ sizeLine; decide, [x1, x2], .cons rx (.cons ry .nil), ⟨_, hT, rfl, _, rfl⟩⟩
      have I1 : Inv X pins σ (upd H s.heap.objs.size (.tup [x, y])) { s with heap := h', toks := tk } :=
        I.turnedNew (ch := [z, TI, TO, i1, i2]) (fun c o hc q => hkk c o (fun e => hc (by simp [e])) (fun e => hc (by simp [e])) (fun e => hc (by simp [e])) (fun e => hc (by simp [e])) q) (fun c hc => (hf c hc).1) (Nat.le_refl _) new
      have hS' := hkk S _ n.z n.TO n.i1 n.i2 hS
      have hne : s.heap.objs.size ≠ S := Nat.ne_of_gt lS
      have hS2 : upd H s.heap.objs.size (.tup [x, y]) S = some (.lst ws) := by rw [upd_ne hne.symm]; exact M.at_
      have hsu := Heap.get?_update_self (Obj.mapSeq (·.push (Value.ref s.heap.objs.size))) hS' rfl
      have lws : (ws ++ [V.ref s.heap.objs.size]).length = i + 1 := by rw [List.length_append, M.len]; rfl
      have vws : Vals (ws ++ [V.ref s.heap.objs.size]) (acc.push (.ref s.heap.objs.size)).toList := by
        rw [Array.toList_push]
        exact hv.append (.cons rfl .nil)
      have I2 : Inv X pins σ (upd (upd H s.heap.objs.size (.tup [x, y])) S (.lst (ws ++ [V.ref s.heap.objs.size]))) { s with heap := h'.update S (Obj.mapSeq (·.push (Value.ref s.heap.objs.size))), toks := tk } := by
        refine I1.write (x := S) (e := S) (t' := tk) (by rw [hS2]; trivial) (.inl rfl) (fun b u hb q => (Heap.get?_update_other _ _ (Ne.symm hb)).trans q) ⟨_, hsu⟩ ?_
        exact ⟨by rw [lws]; omega, _, _, vws, hsu⟩
      refine wpAny_bind ?_
      refine wpAny_updateSeq (s := { s with heap := h', toks := tk }) hS' rfl (wpAny_pure ⟨plainId_quiet F.plain_extend_loop _, ih (i + 1) A _ _ (acc.push (.ref s.heap.objs.size)) _ _ hh (by omega) (by omega) I2 (fun c hc => ?_) ?_ hsu vws ⟨lws, fun b o q => ?_, upd_same, M.free, fun j x' y' hj q1 q2 => ?_⟩ hR⟩)
        (by rw [hacc]; omega) (by show (acc.push _).size ≤ sizeLine + 1; rw [Array.size_push, hacc]; omega)
      · obtain ⟨⟨f0, f1⟩, f2⟩ := hf c hc
        have c1 : c ≠ S := fun e => by
          rw [e] at hc
          simp at hc
          rcases hc with q | q | q | q | q
          · exact n.z q
          · exact n.TI q
          · exact n.TO q
          · exact n.i1 q
          · exact n.i2 q
        refine ⟨⟨?_, f1⟩, ?_⟩
        · rw [upd_ne c1, upd_ne (Nat.ne_of_lt f2)]; exact f0
        · show c < (h'.update S _).objs.size
          rw [Heap.size_update, hsz]; exact Nat.lt_succ_of_lt f2
      · have k2 : ∀ c o, c ≠ S → h'.get? c = some o → (h'.update S (Obj.mapSeq (·.push (Value.ref s.heap.objs.size)))).get? c = some o := fun c o hb q => (Heap.get?_update_other _ _ (Ne.symm hb)).trans q
        exact zipSt_frame (h := h') W1 W2 ⟨hkk _ _ Sp.TIz Sp.TITO Sp.TIi1 Sp.TIi2 hTI, t1, t2, .inr hz'⟩ n k2
      · have hb1 : b ≠ S := fun e => by rw [e, M.free] at q; cases q
        have hb2 : b ≠ s.heap.objs.size := fun e => by have := M.grow _ _ q; rw [e, fr] at this; cases this
        rw [upd_ne hb1, upd_ne hb2]; exact M.grow _ _ q
      · by_cases hji : j < i
        · obtain ⟨T, w1, w2, w3, w4⟩ := M.tup j x' y' hji q1 q2
          refine ⟨T, ?_, w2, w3, ?_⟩
          · rw [List.getElem?_append_left (by rw [M.len]; exact hji)]; exact w1
          · have : T ≠ s.heap.objs.size := fun e => by rw [e, fr] at w4; cases w4
            rw [upd_ne w3, upd_ne this]; exact w4
        · have hj' : j = i := by omega
          subst hj'
          rw [hx] at q1; cases q1
          rw [hy] at q2; cases q2
          refine ⟨s.heap.objs.size, ?_, ?_, hne, ?_⟩
          · rw [List.getElem?_append_right (by rw [M.len]; exact Nat.le_refl _), M.len, Nat.sub_self]; rfl
          · cases e : H1 s.heap.objs.size with
            | none => rfl
            | some o => have := M.grow _ _ e; rw [fr] at this; cases this
          · rw [upd_ne hne]; exact upd_same
    refine codeAny_builtin F.entry_extend_loop ?_
    rw [Around.under_plainId F.plain_extend_loop _]
    show wpAny _ A.in1 (pyNext (.ref z) >>= _) _ _ s
    have l1 : i1 < s.heap.objs.size := by obtain ⟨o, q⟩ := (W1.dr X.prog X.w A hh).live _ _ s1; exact Heap.lt_size q
    have l2 : i2 < s.heap.objs.size := by obtain ⟨o, q⟩ := (W2.dr X.prog X.w A hh).live _ _ s2; exact Heap.lt_size q
    rcases hz with ⟨hz, p, q, ho⟩ | ⟨T, f, oT, hz, hT, r1, r2, r3, r4⟩
    · exact wpAny_bind (wpAny_pyNext_zipD2_item Sp (W1.dr _ _ _ hh) (W2.dr _ _ _ hh) hz hTI ho s1 s2 lt1 lt2 fun x1 x2 h' tk e1 e2 hz' _ t1 t2 hT hsz hk =>
        go x1 x2 h' tk e1 e2 ⟨_, false, _, hz', hT, Nat.ne_of_gt lz, Nat.ne_of_gt l1, Nat.ne_of_gt l2, Nat.ne_of_gt lS⟩ t1 t2 hT hsz hk)
    · exact wpAny_bind (pyNext_zipH2_item Sp (W1.dr _ _ _ hh) (W2.dr _ _ _ hh) hz hT hTI s1 s2 lt1 lt2 fun x1 x2 h' tk e1 e2 hz' t1 t2 hT' hsz hk =>
        go x1 x2 h' tk e1 e2 ⟨_, true, _, hz', hk _ _ r1 r2 r3 hT, r1, r2, r3, r4⟩ t1 t2 hT' hsz fun c o c1 _ c3 c4 e => hk c o c1 c3 c4 e)

theorem zip_extend {A : Around} {s : Shared} {H : Hp} {c₀ : Nat} (W1 : SeqW i1 a its1 St1) (W2 : SeqW i2 b its2 St2) (Sp : ZipSep2 z TI TO i1 i2 [i1, a] [i2, b]) (n : Apart S z TI TO i1 i2 a b) (v1 : Vals xs its1.toList) (v2 : Vals ys its2.toList) (hz1 : its1.size ≤ sizeLine) (res : Value)
    (hh : A.handled = none) (I : Inv X pins σ H s) (hf : ∀ c ∈ [z, TI, TO, i1, i2], FpOk X pins H c ∧ c < s.heap.objs.size) (hz : IsZip s.heap z TI TO .none) (ho : IsTupOf2 s.heap TO .none .none) (st : ZipSt s.heap z TI TO i1 i2 S St1 St2 0)
    (hS : s.heap.get? S = some { cls := .type "list", data := .seq #[] c₀ }) (M : ZipMade H1 S xs ys 0 [] H)
    (hR : ∀ s' H' ws', Inv X pins σ H' s' → ZipMade H1 S xs ys (min its1.size its2.size) ws' H' → R (.ok (.ret res)) s') :
    wpAny (model X.prog X.w) A.in1 (Builtin.List.listExtendWith (.ref S) (.ref z) res)
      (fun fin s' => match fin with | .done f => R (.ok f) s' | .again c' => c'.quiet = true ∧ codeAny (model X.prog X.w) A c' R s') (fun e s' => R (.error e) s') s := by
  have hT : s.TypeIs (.ref z) "zip" := ⟨_, hz, rfl⟩
  have hSz : S ≠ z := n.z
  unfold Builtin.List.listExtendWith
  refine wpAny_bind (wpAny_typeOf hT ?_)
  have h1 : Builtin.List.listSameRef (.ref S) (.ref z) = false := by simp [Builtin.List.listSameRef, hSz]
  have h2 : (Value.type "zip" == Value.type "list") = false := by decide
  have h3 : (Value.type "zip" == Value.type "tuple") = false := by decide
  simp only [h1, h2, h3, Bool.or_false, Bool.false_eq_true, if_false]
  refine wpAny_bind (wpAny_pyIter_zip hz ?_)
  refine wpAny_bind (wpAny_holding ?_)
  unfold Builtin.List.listLengthHint
  refine wpAny_bind (wpAny_specialOf hT zip_no_len ?_)
  show wpAny _ A.in1 (specialOf (Value.ref z) (Str.ofString "__length_hint__") >>= _) _ _ _
  refine wpAny_bind (wpAny_specialOf hT zip_no_hint ?_)
  refine wpAny_pure ?_
  show wpAny _ A.in1 (rule "list.extend.makes-room" >>= fun _ => Builtin.List.listTouch (.ref S) >>= fun _ =>
    again (.builtin "list.extend.loop" ⟨[.ref S, .ref z, res], []⟩)) _ _ _
  refine wpAny_bind (wpAny_rule ?_)
  refine wpAny_bind ?_
  show wpAny _ A.in1 (updateSeq S (·.push .none) >>= fun _ => updateSeq S (·.pop)) _ _ _
  refine wpAny_bind (wpAny_updateSeq hS rfl ?_)
  have hS₂ := Heap.get?_update_self (Obj.mapSeq (·.push Value.none)) hS rfl
  refine wpAny_updateSeq (hz := by seq_fits) hS₂ rfl ?_
  have hS₃ := Heap.get?_update_self (Obj.mapSeq (·.pop)) hS₂ rfl
  have oth : ∀ b o, b ≠ S → s.heap.get? b = some o → ((s.heap.update S (Obj.mapSeq (·.push Value.none))).update S (Obj.mapSeq (·.pop))).get? b = some o :=
    fun b o hb e => (Heap.get?_update_other _ _ (Ne.symm hb)).trans ((Heap.get?_update_other _ _ (Ne.symm hb)).trans e)
  have eH : upd H S (.lst []) = H := by
    funext b
    by_cases e : b = S
    · rw [e, upd_same, M.at_]
    · rw [upd_ne e]
  have I2 : Inv X pins σ H { s with heap := (s.heap.update S (Obj.mapSeq (·.push Value.none))).update S (Obj.mapSeq (·.pop)) } := by
    have q := I.write (x := S) (e := S) (t' := s.toks) (h' := (s.heap.update S (Obj.mapSeq (·.push Value.none))).update S (Obj.mapSeq (·.pop))) (o := .lst []) (by rw [M.at_]; trivial) (.inl rfl) (fun b u hb q => oth b u hb q) ⟨_, hS₃⟩
      ⟨Nat.zero_le _, [], _, .nil, hS₃⟩
    rw [eH] at q
    exact q
  refine wpAny_pure ⟨plainId_quiet F.plain_extend_loop _, zip_loop W1 W2 Sp n v1 v2 hz1 res _ 0 A _ H _ _ [] hh rfl (Nat.zero_le _) I2 (fun c hc => ⟨(hf c hc).1, ?_⟩) (zipSt_frame W1 W2 st n oth) hS₃ .nil M hR⟩
  show c < ((s.heap.update S _).update S _).objs.size
  rw [Heap.size_update, Heap.size_update]
  exact (hf c hc).2
theorem zip_init {A : Around} {s : Shared} {H : Hp} (W1 : SeqW i1 a its1 St1) (W2 : SeqW i2 b its2 St2) (Sp : ZipSep2 z TI TO i1 i2 [i1, a] [i2, b]) (n : Apart S z TI TO i1 i2 a b) (v1 : Vals xs its1.toList) (v2 : Vals ys its2.toList) (hz1 : its1.size ≤ sizeLine)
    (hh : A.handled = none) (I : Inv X pins σ H s) (hf : ∀ c ∈ [z, TI, TO, i1, i2], FpOk X pins H c ∧ c < s.heap.objs.size) (hz : IsZip s.heap z TI TO .none) (ho : IsTupOf2 s.heap TO .none .none) (st : ZipSt s.heap z TI TO i1 i2 S St1 St2 0)
    (hS : s.heap.get? S = some { cls := .type "list", data := .seq #[] }) (M : ZipMade H1 S xs ys 0 [] H)
    (hR : ∀ s' H' ws', Inv X pins σ H' s' → ZipMade H1 S xs ys (min its1.size its2.size) ws' H' → R (.ok (.ret .none)) s') :
    wpAny (model X.prog X.w) A.in1 (Builtin.«list.__init__» ⟨[.ref S, .ref z], []⟩)
      (fun fin s' => match fin with | .done f => R (.ok f) s' | .again c' => c'.quiet = true ∧ codeAny (model X.prog X.w) A c' R s') (fun e s' => R (.error e) s') s := by
  show wpAny _ A.in1 (do let old ← Builtin.List.listItems (.ref S); Builtin.List.listUpdate (.ref S) (fun _ => #[]); letGo old.toList.reverse; Builtin.List.listExtendWith (.ref S) (.ref z) .none) _ _ s
  refine wpAny_bind ?_
  unfold Builtin.List.listItems
  refine wpAny_bind (wpAny_seqItems hS rfl (wpAny_pure ?_))
  show wpAny _ A.in1 (updateSeq S (fun _ => #[]) >>= fun _ => letGo (#[] : Array Value).toList.reverse >>= fun _ => Builtin.List.listExtendWith (.ref S) (.ref z) .none) _ _ s
  refine wpAny_bind (wpAny_updateSeq hS rfl ?_)
  have hS₂ := Heap.get?_update_self (Obj.mapSeq (fun _ => (#[] : Array Value))) hS rfl
  have oth : ∀ b o, b ≠ S → s.heap.get? b = some o → (s.heap.update S (Obj.mapSeq (fun _ => (#[] : Array Value)))).get? b = some o :=
    fun b o hb e => (Heap.get?_update_other _ _ (Ne.symm hb)).trans e
  have eH : upd H S (.lst []) = H := by
    funext b
    by_cases e : b = S
    · rw [e, upd_same, M.at_]
    · rw [upd_ne e]
  have I2 : Inv X pins σ H { s with heap := s.heap.update S (Obj.mapSeq (fun _ => (#[] : Array Value))) } := by
    have q := I.write (x := S) (e := S) (t' := s.toks) (h' := s.heap.update S (Obj.mapSeq (fun _ => (#[] : Array Value)))) (o := .lst []) (by rw [M.at_]; trivial) (.inl rfl) (fun b u hb q => oth b u hb q) ⟨_, hS₂⟩
      ⟨Nat.zero_le _, [], _, .nil, hS₂⟩
    rw [eH] at q
    exact q
  refine wpAny_bind (wpAny_letGo ?_)
  refine zip_extend W1 W2 Sp n v1 v2 hz1 .none hh I2 (fun c hc => ⟨(hf c hc).1, ?_⟩) (oth _ _ n.z.symm hz) (oth _ _ n.TO.symm ho) (zipSt_frame W1 W2 st n oth) hS₂ M hR
  show c < (s.heap.update S _).objs.size
  rw [Heap.size_update]
  exact (hf c hc).2
theorem call_list_zip {A : Around} {E : Value → Shared → Prop} {s : Shared} {H : Hp} {Q : Value → Shared → Prop} (W1 : SeqW i1 a its1 St1) (W2 : SeqW i2 b its2 St2) (Sp : ZipSep2 z TI TO i1 i2 [i1, a] [i2, b]) (n : Apart s.heap.objs.size z TI TO i1 i2 a b) (v1 : Vals xs its1.toList) (v2 : Vals ys its2.toList) (hz1 : its1.size ≤ sizeLine)
    (hh : A.handled = none) (I : Inv X pins σ H s) (hf : ∀ c ∈ [z, TI, TO, i1, i2], FpOk X pins H c ∧ c < s.heap.objs.size) (hz : IsZip s.heap z TI TO .none) (ho : IsTupOf2 s.heap TO .none .none) (hTI : IsTupOf2 s.heap TI (.ref i1) (.ref i2)) (st1 : St1 0 s.heap) (st2 : St2 0 s.heap)
    (hQ : ∀ s' H' ws', Inv X pins σ H' s' → ZipMade H s.heap.objs.size xs ys (min its1.size its2.size) ws' H' → Q (.ref s.heap.objs.size) s') :
    wpAny (model X.prog X.w) A (call (.type "list") [.ref z]) Q E s := by
  refine callType_codes (Q₁ := fun obj s₁ => obj = .ref s.heap.objs.size ∧ s₁ = { s with heap := s.heap.push { cls := .type "list", data := .seq #[] } }) F.called_list (F.typeCall_list_1 _) F.entry_list_init
    (code_list_new _ ⟨rfl, rfl⟩) fun obj s₁ h₁ => ?_
  obtain ⟨rfl, rfl⟩ := h₁
  have hS : (s.heap.push { cls := .type "list", data := .seq #[] }).get? s.heap.objs.size = some { cls := .type "list", data := .seq #[] } := Heap.get?_push_size _ rfl
  have k : ∀ b o, s.heap.get? b = some o → (s.heap.push { cls := .type "list", data := .seq #[] }).get? b = some o := fun b o e => Heap.get?_push_of_some _ e
  have I1 : Inv X pins σ (upd H s.heap.objs.size (.lst [])) { s with heap := s.heap.push { cls := .type "list", data := .seq #[] } } :=
    I.laid (t' := s.toks) k (Nat.le_refl _) ⟨Nat.zero_le _, [], _, .nil, hS⟩
  have fr : H s.heap.objs.size = none := I.hok.fresh (Nat.le_refl _)
  refine ⟨⟨_, hS, rfl⟩, F.args_list_init_2 _ _, zip_init (H1 := H) W1 W2 Sp n v1 v2 hz1 hh I1 (fun c hc => ?_) (k _ _ hz) (k _ _ ho) ⟨k _ _ hTI, W1.frame _ _ _ st1 fun b _ o e => k b o e, W2.frame _ _ _ st2 fun b _ o e => k b o e, .inl ⟨k _ _ hz, _, _, k _ _ ho⟩⟩ hS
    ⟨rfl, fun b o q => ?_, upd_same, fr, fun j x y hj => absurd hj (Nat.not_lt_zero _)⟩ fun s' H' ws' J M => ⟨rfl, hQ s' H' ws' J M⟩⟩
  · obtain ⟨⟨f0, f1⟩, f2⟩ := hf c hc
    refine ⟨⟨?_, f1⟩, ?_⟩
    · rw [upd_ne (Nat.ne_of_lt f2)]; exact f0
    · show c < (s.heap.push _).objs.size
      rw [Heap.size_push]; exact Nat.lt_succ_of_lt f2
  · have hb : b ≠ s.heap.objs.size := fun e => by rw [e, fr] at q; cases q
    rw [upd_ne hb]; exact q

def SqLT (K : PySem.W.Frag) (H : Hp) (a : Addr) (xs : List V) : Prop := SqL K H a xs ∨ SqT K H a xs
theorem seq_begin {X : Cx} {pins : List (Addr × Obj)} {σ : L2.St} {H : Hp} {s : Shared} (I : Inv X pins σ H s) {a : Addr} {xs : List V} (h : SqLT X.K H a xs) :
    ∃ (its : List Value) (o : Obj) (P : Heap → Prop) (St : Addr → Nat → Heap → Prop), Vals xs its ∧ xs.length ≤ sizeLine ∧ a < s.heap.objs.size ∧ Begins (.ref a) o P ∧ P s.heap ∧ (∀ it, a ≠ it → SeqW it a its.toArray (St it)) ∧ ∀ it (h' : Heap), (∀ b o, s.heap.get? b = some o → h'.get? b = some o) → h'.get? it = some o → St it 0 h' := by
  rcases h with h | h
  · obtain ⟨its, rv, p, hz⟩ := I.list h
    exact ⟨its, _, _, fun it i h => h.IsListIter it a i ∧ h.IsList a its.toArray, rv, hz, p.lt, begins_list a its.toArray, p.isList, fun it ne => seqW_list it a _ ne, fun it h' k e => ⟨⟨_, e, rfl, rfl⟩, p.isList.at fun o e => k a o e⟩⟩
  · obtain ⟨its, rv, p, hz⟩ := I.tuple h
    have p' : s.heap.IsTuple a its.toArray := p
    obtain ⟨o1, ho1, _⟩ := id p
    exact ⟨its, _, _, fun it i h => h.IsTupleIter it a i ∧ h.IsTuple a its.toArray, rv, hz, Heap.lt_size ho1, begins_tuple a its.toArray, p', fun it ne => seqW_tuple it a _ ne, fun it h' k e => ⟨⟨_, e, rfl, rfl⟩, p'.at fun o e => k a o e⟩⟩
def tListZip (K : PySem.W.Frag) (ta : TA) : TE := fun σ H Q => ta σ H fun vs H1 => ∃ a b xs ys, vs = [.ref a, .ref b] ∧ SqLT K H1 a xs ∧ SqLT K H1 b ys ∧ ∀ S H' ws, ZipMade H1 S xs ys (min xs.length ys.length) ws H' → Q (.ref S) H'
theorem pe_listZip {X : Cx} {e e2 : Expr} {ta : TA} {p p2 pos pos2 : Pos} (hg : Gl X "list") (hm : X.mg "list" = none) (hgz : Gl X "zip") (hmz : X.mg "zip" = none) (hc : X.calm = true) (ha : PA X [e, e2] ta)
    (hs : starEach [e, e2] X.env = (false, eval e X.env) :: starEach [e2] X.env) (hpl : (backTo pos2 (starEach [e2] X.env)).any (·.1) = false)
    (na : starEach [.Call (.Name "zip" p2) [e, e2] [] pos2] X.env = (false, eval (.Call (.Name "zip" p2) [e, e2] [] pos2) X.env) :: starEach [] X.env) :
    PE X (.Call (.Name "list" p) [.Call (.Name "zip" p2) [e, e2] [] pos2] [] pos) (tListZip X.K ta) := by
  refine ⟨fun pins s σ H Q I h => ?_⟩
  refine Call_ (ld_blt I hg hm PyProof.Rows.boot_list (PyProof.Rows.callWith_type1 (args_cons ?_ na) na))
  refine Call_ (ld_blt I hgz hmz PyProof.Rows.boot_zip (PyProof.Rows.callWith_type1 (thn (ha.run pos2 pins s σ H _ I h) fun us s1 ⟨vs, H1, I1, r1, q1⟩ => ?_) hs hpl))
  obtain ⟨a, b, xs, ys, ex, qx, qy, q⟩ := q1
  subst ex
  cases r1 with
  | cons r rr =>
    cases rr with
    | cons r' rr =>
      cases rr
      cases r
      cases r'
      obtain ⟨its1, o1, P1, St1, v1, z1, l1, B1, p1, W1, b1⟩ := seq_begin I1 qx
      obtain ⟨its2, o2, P2, St2, v2, z2, l2, B2, p2, W2, b2⟩ := seq_begin I1 qy
      have y1 := v1.length
      have y2 := v2.length
      refine zip_begins2 B1 B2 p1 p2 fun h' hz hTI hTO g1 g2 hsz hk => args_nil ?_
      have I2 : Inv X pins σ H1 { s1 with heap := h' } := I1.kept (t' := s1.toks) hk
      have na1 : ∀ j, a ≠ s1.heap.objs.size + j := fun j => Nat.ne_of_lt (Nat.lt_of_lt_of_le l1 (Nat.le_add_right _ _))
      have nb1 : ∀ j, b ≠ s1.heap.objs.size + j := fun j => Nat.ne_of_lt (Nat.lt_of_lt_of_le l2 (Nat.le_add_right _ _))
      refine call_list_zip (X := X) (pins := pins) (σ := σ) (H := H1) (xs := xs) (ys := ys) (s := { s1 with heap := h' }) (W1 s1.heap.objs.size (na1 0)) (W2 (s1.heap.objs.size + 1) (nb1 1))
        (zip_sep2 (N := s1.heap.objs.size) (fp1 := [a]) (fp2 := [b]) (fun c hc => by rw [List.mem_singleton.mp hc]; exact l1) (fun c hc => by rw [List.mem_singleton.mp hc]; exact l2))
        ?_ v1 v2 (by rw [List.size_toArray, ← y1]; exact z1) (I2.ok.hd hc) I2 ?_ hz hTO hTI (b1 _ _ hk g1) (b2 _ _ hk g2) ?_
      · have e : (h' : Heap).objs.size = s1.heap.objs.size + 5 := hsz
        constructor
        · show h'.objs.size ≠ _
          rw [e]; exact Nat.ne_of_gt (Nat.add_lt_add_left (by decide) _)
        · show h'.objs.size ≠ _
          rw [e]; exact Nat.ne_of_gt (Nat.add_lt_add_left (by decide) _)
        · show h'.objs.size ≠ _
          rw [e]; exact Nat.ne_of_gt (Nat.add_lt_add_left (by decide) _)
        · show h'.objs.size ≠ _
          rw [e]; exact Nat.ne_of_gt (Nat.lt_add_of_pos_right (by decide))
        · show h'.objs.size ≠ _
          rw [e]; exact Nat.ne_of_gt (Nat.add_lt_add_left (by decide) _)
        · show h'.objs.size ≠ _
          rw [e]; exact (na1 5).symm
        · show h'.objs.size ≠ _
          rw [e]; exact (nb1 5).symm
      · intro c hcm
        have e' : c = s1.heap.objs.size + 4 ∨ c = s1.heap.objs.size + 2 ∨ c = s1.heap.objs.size + 3 ∨ c = s1.heap.objs.size ∨ c = s1.heap.objs.size + 1 := by simpa using hcm
        have hle : s1.heap.objs.size ≤ c ∧ c < s1.heap.objs.size + 5 := by
          rcases e' with z | z | z | z | z
          · rw [z]; exact ⟨Nat.le_add_right _ _, Nat.add_lt_add_left (by decide) _⟩
          · rw [z]; exact ⟨Nat.le_add_right _ _, Nat.add_lt_add_left (by decide) _⟩
          · rw [z]; exact ⟨Nat.le_add_right _ _, Nat.add_lt_add_left (by decide) _⟩
          · rw [z]; exact ⟨Nat.le_refl _, Nat.lt_add_of_pos_right (by decide)⟩
          · rw [z]; exact ⟨Nat.le_add_right _ _, Nat.add_lt_add_left (by decide) _⟩
        refine ⟨I1.fpOk hle.1 (I1.hok.fresh hle.1), ?_⟩
        show c < h'.objs.size
        rw [hsz]; exact hle.2
      · intro s' H' ws' J M
        refine ⟨.ref h'.objs.size, H', J, rfl, q _ _ ws' ?_⟩
        have e1 : its1.toArray.size = xs.length := by rw [List.size_toArray, ← y1]
        have e2 : its2.toArray.size = ys.length := by rw [List.size_toArray, ← y2]
        rw [e1, e2] at M
        exact M
end
end Qd
namespace Qd
open PySem PySem.Spec L2
section
variable {X : Cx} {W : WX} {pos p p2 pos2 : Pos} {x : Str} {e e1 e2 : Expr} {es : List Expr} {f k : SE} {g : SA} {kk : Nat}
theorem ext_grow {ι : List Addr} {H H' : Hp} (k : ∀ b o, H b = some o → H' b = some o) : Ext ι H ι H' := ⟨List.prefix_refl _, fun a o h _ _ => k a o h, fun _ h => .inl h⟩
theorem RH.grow {S Z ι H H' ah} (h : RH S Z ι H ah) (k : ∀ b o, H b = some o → H' b = some o) : RH S Z ι H' ah :=
  ⟨h.nd, h.len, fun n a u h1 h2 => by
    have r := h.at_ n a u h1 h2
    obtain ⟨w, e⟩ := r.tr
    exact r.ext (ext_grow k) (by rw [e, k _ _ e]), fun a ha => by
    obtain ⟨n, u, e, nt⟩ := h.z a ha
    exact ⟨n, u, k _ _ e, nt⟩, h.tb.ext k⟩
def cLZip (g : SA) : SE := fun ρ ah => (g ρ ah).bind fun ds ah1 => match ds with
  | [a, b] => match itemsOf ah1 a, itemsOf ah1 b with
    | some u, some v => .ok (.lst (zipD u v)) ah1
    | _, _ => .stuck
  | _ => .stuck
theorem rvs_of_get {K Z ι H} : ∀ (ds : List D) (ws : List V), ds.length = ws.length → (∀ (i : Nat) d, ds[i]? = some d → ∃ v, ws[i]? = some v ∧ RV K Z ι H d v) → RVs K Z ι H ds ws
  | [], [], _, _ => .nil
  | [], _ :: _, h, _ => by simp at h
  | _ :: _, [], h, _ => by simp at h
  | d :: ds, w :: ws, h, k => by
    obtain ⟨v, e, r⟩ := k 0 d rfl
    cases e
    exact .cons r (rvs_of_get ds ws (by simpa using h) fun i d' e => k (i + 1) d' e)
theorem de_lzip (hml : X.mg "list" = none) (hmz : X.mg "zip" = none) (hc : X.calm = true) (ha : DA X W [e1, e2] g) (hg : Gl X "list" := by rfl) (hgz : Gl X "zip" := by rfl)
    (hs : starEach [e1, e2] X.env = (false, eval e1 X.env) :: starEach [e2] X.env := by rfl) (hpl : (backTo pos2 (starEach [e2] X.env)).any (·.1) = false := by rfl)
    (na : starEach [.Call (.Name "zip" p2) [e1, e2] [] pos2] X.env = (false, eval (.Call (.Name "zip" p2) [e1, e2] [] pos2) X.env) :: starEach [] X.env := by rfl) :
    DE X W (.Call (.Name "list" p) [.Call (.Name "zip" p2) [e1, e2] [] pos2] [] pos) (cLZip g) := by
  refine ⟨(pe_listZip hg hml hgz hmz hc ha.pa hs hpl na).weak fun σ H Q h => ?_⟩
  obtain ⟨Z, ι, ρ, ah, hH, hE, h⟩ := h
  refine ⟨Z, ι, ρ, ah, hH, hE, h.bind.mono fun ds ah1 ι1 H1 x1 hH1 hq vs rvs => ?_⟩
  clear h
  split at hq
  · rename_i a b
    cases rvs with
    | cons ra rs =>
      cases rs with
      | cons rb rs =>
        cases rs
        split at hq
        · rename_i u v ea eb
          obtain ⟨pa, xs, rfl, qa, la, r1⟩ := itemsOf_run hH1 ra ea
          obtain ⟨pb, ys, rfl, qb, lb, r2⟩ := itemsOf_run hH1 rb eb
          refine ⟨pa, pb, xs, ys, rfl, qa, qb, fun S H' ws M => ?_⟩
          have y1 := r1.length
          have y2 := r2.length
          obtain ⟨fS1, fS2⟩ := hH1.fresh M.free
          refine hq ι1 H' (ext_grow M.grow) (hH1.grow M.grow) _ (.lst fS1 fS2 M.at_ ?_ (rvs_of_get _ _ ?_ fun i d hd => ?_))
          · rw [M.len]; exact Nat.le_trans (Nat.min_le_left _ _) la
          · rw [M.len]
            unfold zipD
            rw [List.length_zipWith, y1, y2]
          · obtain ⟨p, q, e1, e2, rfl⟩ := zipD_get hd
            obtain ⟨vp, ep, rp⟩ := r1.get e1
            obtain ⟨vq, eq, rq⟩ := r2.get e2
            have hlt : i < min xs.length ys.length := by
              have h1 : i < xs.length := by
                rcases Nat.lt_or_ge i xs.length with q | q
                · exact q
                · rw [List.getElem?_eq_none q] at ep; cases ep
              have h2 : i < ys.length := by
                rcases Nat.lt_or_ge i ys.length with q | q
                · exact q
                · rw [List.getElem?_eq_none q] at eq; cases eq
              omega
            obtain ⟨T, w1, w2, w3, w4⟩ := M.tup i vp vq hlt ep eq
            obtain ⟨fT1, fT2⟩ := hH1.fresh w2
            exact ⟨_, w1, .tup (.inl ⟨⟨fT1, fT2⟩, .inl w4⟩) (show 2 ≤ sizeLine by decide) (.cons (rp.ext (ext_grow M.grow)) (.one (rq.ext (ext_grow M.grow))))⟩
        · exact hq.elim
  · exact hq.elim
end
end Qd

set_option Elab.async false
set_option linter.all false
set_option maxRecDepth 100000
set_option maxHeartbeats 2000000
/-! QTxt: int(t, 2); join; more operators in place. -/
namespace Bn
open PySem PySem.Spec PyProof.Rows PySem.NumText PySem.Calls
def IsBin (c : Nat) : Prop := c = 48 ∨ c = 49
def bv (c : Nat) : Nat := c - 48
def binNum (l : List Nat) : Nat := l.foldl (fun a c => a * 2 + bv c) 0
theorem bv_lt {c : Nat} (h : IsBin c) : bv c < 2 := by
  unfold IsBin at h
  unfold bv
  omega
theorem digit_bin {c : Nat} (h : IsBin c) : digit? c = some (bv c) := by
  unfold IsBin at h
  unfold digit? bv
  rw [if_pos (L2.Hx.bb (show 48 ≤ c by omega) (show c ≤ 57 by omega))]
theorem bin_rng {c : Nat} (h : IsBin c) : 48 ≤ c ∧ c ≤ 49 ∧ c ≠ 95 := by
  unfold IsBin at h
  exact ⟨by omega, by omega, by omega⟩
theorem step_bin {ds : Array Nat} {b : Bool} {c : Nat} (h : IsBin c) : PySem.NumText.step 2 (ds, b) c = some (ds.push (bv c), true) := by
  have hr := bin_rng h
  unfold PySem.NumText.step
  rw [if_neg (by rw [beq_iff_eq]; exact hr.2.2), digit_bin h]
  exact if_pos (bv_lt h)
theorem foldl_bin : ∀ (cs : List Nat) (ds : Array Nat), (∀ c ∈ cs, IsBin c) → cs.foldlM (PySem.NumText.step 2) (ds, true) = some (cs.foldl (fun acc c => acc.push (bv c)) ds, true)
  | [], _, _ => rfl
  | c :: cs, ds, h => by
    rw [List.foldlM_cons, step_bin (h c (List.mem_cons_self ..))]
    show cs.foldlM (PySem.NumText.step 2) (ds.push (bv c), true) = _
    exact foldl_bin cs (ds.push (bv c)) fun d hd => h d (List.mem_cons_of_mem _ hd)
theorem digits_bin {cs : List Nat} (h : ∀ c ∈ cs, IsBin c) (hne : cs ≠ []) : digits? 2 cs = some (cs.foldl (fun acc c => acc.push (bv c)) #[]) := by
  cases cs with
  | nil => exact absurd rfl hne
  | cons c cs =>
    unfold digits?
    rw [List.foldlM_cons, step_bin (h c (List.mem_cons_self ..))]
    show (cs.foldlM (PySem.NumText.step 2) ((#[] : Array Nat).push (bv c), true)).bind _ = _
    rw [foldl_bin cs _ fun d hd => h d (List.mem_cons_of_mem _ hd)]
    rfl
theorem push_bin : ∀ (cs : List Nat) (ds : Array Nat), (cs.foldl (fun acc c => acc.push (bv c)) ds).foldl (fun acc d => acc * 2 + d) 0 = cs.foldl (fun a c => a * 2 + bv c) (ds.foldl (fun acc d => acc * 2 + d) 0)
  | [], _ => rfl
  | c :: cs, ds => by
    rw [List.foldl_cons, push_bin cs (ds.push (bv c)), List.foldl_cons]
    congr 1
    simp
theorem dropB2 {cs : List Nat} (h : ∀ c ∈ cs, IsBin c) : cs.dropWhile blank = cs := by
  cases cs with
  | nil => rfl
  | cons c cs => exact dropWhile_of (by have := bin_rng (h c (List.mem_cons_self ..)); omega)
theorem signB2 {cs : List Nat} (h : ∀ c ∈ cs, IsBin c) : sign cs = (false, cs) := by
  cases cs with
  | nil => rfl
  | cons c cs =>
    have := bin_rng (h c (List.mem_cons_self ..))
    exact sign_of (by omega) (by omega)
theorem basedB2 {cs : List Nat} (h : ∀ c ∈ cs, IsBin c) : based 2 cs = (2, false, cs) := by
  match cs, h with
  | [], _ => rfl
  | [a], h =>
    have h1 := h a (List.mem_cons_self ..)
    unfold IsBin at h1
    rcases h1 with rfl | rfl <;> rfl
  | a :: c :: r, h =>
    have h1 := h a (List.mem_cons_self ..)
    have h2 := h c (List.mem_cons_of_mem _ (List.mem_cons_self ..))
    unfold IsBin at h1 h2
    rcases h1 with rfl | rfl <;> rcases h2 with rfl | rfl <;> rfl
theorem read_bin {cs : List Nat} (h : ∀ c ∈ cs, IsBin c) (hne : cs ≠ []) : (int_private% "readNumeral") 0 2 cs = (int_private% "Numeral.value") ((binNum cs : Nat) : Int) := by
  have hr : ∀ c ∈ cs.reverse, IsBin c := fun c hc => h c (List.mem_reverse.mp hc)
  refine (readNumeral_eq 0 2 cs).trans ?_
  rw [dropB2 h, signB2 h]
  show judge 0 false (based 2 cs).1 (based 2 cs).2.1 (digits? (based 2 cs).1 (((based 2 cs).2.2.reverse.dropWhile blank).reverse)) = _
  rw [basedB2 h]
  show judge 0 false 2 false (digits? 2 ((cs.reverse.dropWhile blank).reverse)) = _
  rw [dropB2 hr, List.reverse_reverse, digits_bin h hne]
  show (int_private% "Numeral.value") (((cs.foldl (fun acc c => acc.push (bv c)) (#[] : Array Nat)).foldl (fun acc d => acc * 2 + d) 0 : Nat) : Int) = _
  have z : (#[] : Array Nat).foldl (fun acc d => acc * 2 + d) 0 = 0 := by first | rfl | simp
  rw [push_bin, z] <;> rfl
theorem seen_bin {x : Str} (h : ∀ c ∈ x.cps.toList, IsBin c) : numTextOf x = x.cps.toList ∧ numSeenOf x = x.cps.toList := by
  have e1 : numTextOf x = x.cps.toList := by
    refine if_pos ?_
    rw [← Array.all_toList, List.all_eq_true]
    intro c hc
    have := bin_rng (h c hc)
    exact decide_eq_true (by omega)
  refine ⟨e1, ?_⟩
  show (numTextOf x).takeWhile _ = _
  rw [e1]
  refine takeWhile_all fun c hc => ?_
  have := bin_rng (h c hc)
  exact bne_iff_ne.mpr (by omega)

set_option maxHeartbeats 4000000 in
theorem gives_bin {x : PySem.Str} {u t : Tok} (hl : x.length ≤ 640) (h : ∀ c ∈ x.cps.toList, IsBin c) (hne : x.cps.toList ≠ []) :
    Gives (Builtin.«int.__new__» ⟨[.type "int", .str x u, .int 2 t], []⟩) (.int ((binNum x.cps.toList : Nat) : Int)) :=
  .of_wp fun M A E s Q hQ => by
    obtain ⟨hp, g, d, tk, os⟩ := s
    have f1 := F.conv_sub_int
    have f2 := F.madeHere_int
    have f6 : typeOf (.str x u) = pure (.type "str") := rfl
    obtain ⟨e1, e2⟩ := seen_bin h
    have hs : (numSeenOf x).length ≤ 640 := by
      rw [e2, Array.length_toList]
      exact hl
    have hr : (int_private% "readNumeral") 0 2 (numSeenOf x) = (int_private% "Numeral.value") ((binNum x.cps.toList : Nat) : Int) := by
      rw [e2]
      exact read_bin h hne
    have ha : ((numSeenOf x).length == (numTextOf x).length) = true := by
      rw [e1, e2]
      exact beq_self_eq_true _
    have hk := L2.Hx.Hid.mk (And.intro hs (And.intro hr ha))
    clear hs hr ha e1 e2 hl hne h
    repeat (any_goals (first
      | assumption
      | ((with_reducible show wpAny _ _ ((int_private% "intFromText") _ _ _) _ _ _); refine L2.Hx.wp_textB hk.out.1 hk.out.2.1 hk.out.2.2 ?_)
      | wp_step))
    all_goals first | exact ⟨_, rfl, hQ⟩ | skip
theorem call_bin {prog : Program} {w : World} {A : Around} {E : Value → Shared → Prop} {s : Shared} {Q : Value → Shared → Prop} {x : PySem.Str} {u t : Tok} (hl : x.length ≤ 640) (h : ∀ c ∈ x.cps.toList, IsBin c) (hne : x.cps.toList ≠ [])
    (hQ : Q (.int ((binNum x.cps.toList : Nat) : Int) s.toks) { s with toks := s.toks + 1 }) : wpAny (model prog w) A (call (.type "int") [.str x u, .int 2 t]) Q E s :=
  callType_new F.called_int F.newNe_int (L2.Hx.typeCall_int_2 _ _) (L2.Hx.newCall_int_2 _ _) (fun obj => F.initArgs_range_2 obj _ _) F.entry_int_new (gives_bin hl h hne).meets (show (Made.int ((binNum x.cps.toList : Nat) : Int)).post _ s from ⟨rfl, hQ⟩)
end Bn
namespace Qd
open PySem PySem.Spec L2
theorem call_int_bin {X : Cx} : CallR X (.type "int") (fun xs H Q => ∃ x : Str, xs = [.str x, .int 2] ∧ x.cps.toList ≠ [] ∧ x.length ≤ 640 ∧ (∀ c ∈ x.cps.toList, Bn.IsBin c) ∧ Q (.int ((Bn.binNum x.cps.toList : Nat) : Int)) H) := by
  intro pins s σ H xs us Q I r h
  obtain ⟨x, rfl, hne, hl, hx, q⟩ := h
  obtain ⟨u, w', rfl, r1, r2⟩ := vals2 r
  obtain ⟨t1, rfl⟩ := r1
  obtain ⟨t2, rfl⟩ := r2
  exact Bn.call_bin hl hx hne ⟨.int ((Bn.binNum x.cps.toList : Nat) : Int), H, I.tok _, ⟨_, rfl⟩, q⟩
instance (c : Nat) : Decidable (Bn.IsBin c) := by unfold Bn.IsBin; infer_instance
def bInt2 (ds : List D) (ah : List AO) : R D := match ds with
  | [.str x, .int b] => if b = 2 ∧ x.cps.toList ≠ [] ∧ x.length ≤ 640 ∧ (∀ c ∈ x.cps.toList, Bn.IsBin c) then .ok (.int ((Bn.binNum x.cps.toList : Nat) : Int)) ah else .stuck
  | _ => .stuck
section
variable {X : Cx} {W : WX} {pos p p2 pos2 apos : Pos} {x : Str} {e e1 e2 o : Expr} {es : List Expr} {f k : SE} {g : SA} {kk : Nat}
theorem sim_bint2 : CaSim X (fun xs H Q => ∃ x : Str, xs = [.str x, .int 2] ∧ x.cps.toList ≠ [] ∧ x.length ≤ 640 ∧ (∀ c ∈ x.cps.toList, Bn.IsBin c) ∧ Q (.int ((Bn.binNum x.cps.toList : Nat) : Int)) H) bInt2 := by
  intro W Z ι H σ ah ds vs Q hH rvs h
  unfold bInt2 at h
  split at h
  · split at h
    · rename_i q
      obtain ⟨rfl, q1, q2, q3⟩ := q
      cases rvs with
      | cons ra rs =>
        cases rs with
        | cons rb rs =>
          cases rs; cases ra; cases rb
          exact ⟨_, rfl, q1, q2, q3, h.now hH _ (.int _)⟩
    · exact h.elim
  · exact h.elim
theorem de_int2 (hm : X.mg "int" = none) (ha : DA X W [e1, e2] g) (hg : Gl X "int" := by rfl) (he : starEach [e1, e2] X.env = (false, eval e1 X.env) :: starEach [e2] X.env := by rfl) (hpl : (backTo pos (starEach [e2] X.env)).any (·.1) = false := by rfl) : DE X W (.Call (.Name "int" p) [e1, e2] [] pos) (cBi bInt2 g) :=
  de_ty call_int_bin sim_bint2 hm PyProof.Rows.boot_int ha hg (by decide) (by decide) he hpl
/-! ### join -/
def strsOf : List D → Option (List Str)
  | [] => some []
  | .str x :: ds => (strsOf ds).map fun r => x :: r
  | _ :: _ => none
theorem strsOf_run {K Z ι H} : ∀ {ds : List D} {vs : List V} {r : List Str}, RVs K Z ι H ds vs → strsOf ds = some r → vs = r.map V.str
  | [], _, r, h, e => by
    cases h
    simp only [strsOf, Option.some.injEq] at e
    rw [← e]; rfl
  | d :: ds, _, r, h, e => by
    cases h with
    | cons hd hs =>
      cases hd with
      | str x hx =>
        simp only [strsOf, Option.map_eq_some_iff] at e
        obtain ⟨r', e', rfl⟩ := e
        rw [strsOf_run hs e']; rfl
      | _ => simp [strsOf] at e
def dJoin (s : Str) (d : D) (ah : List AO) : R D := match (itemsOf ah d).bind strsOf with
  | some ys => if (ys.map (·.length)).sum + ys.length * s.length ≤ 16777216 ∧ PySem.PyData.strOk (Txt.join s ys) = true then .ok (.str (Txt.join s ys)) ah else .stuck
  | none => .stuck
/-- a method of a text with one argument -/
def cStr1 (o : Str → D → List AO → R D) (f k : SE) : SE := fun ρ ah => (f ρ ah).bind fun x ah1 => match x with
  | .str s => (k ρ ah1).bind fun y ah2 => o s y ah2
  | _ => .stuck
theorem cStr1_run {r : V → List V → Hp → VK → Prop} {o : Str → D → List AO → R D}
    (hs : ∀ (Z ι : List Addr) (H : Hp) (σ : L2.St) (ah : List AO) (s : Str) (d : D) (v : V) (Q : VK), RH (sr X) Z ι H ah → RV X.K Z ι H d v → PySem.PyData.strOk s = true → ResP (sr X) W Z ι H σ (fun d _ ι' H' => ∀ v, RV X.K Z ι' H' d v → Q v H') (o s d ah) → r (.str s) [v] H Q)
    {σ : L2.St} {H : Hp} {Q : VK} (h : tOf (sr X) W (cStr1 o f k) σ H Q) : tM1 r (tOf (sr X) W f) (tOf (sr X) W k) σ H Q := by
  obtain ⟨Z, ι, ρ, ah, hH, hE, h⟩ := h
  refine ⟨Z, ι, ρ, ah, hH, hE, h.bind.mono fun d ah1 ι1 H1 x1 hH1 hq v rv => ?_⟩
  clear h
  split at hq
  · cases rv with
    | str s hx => exact ⟨⟨_, rfl⟩, Z, ι1, ρ, ah1, hH1, hE.ext x1, hq.bind.mono fun y ah2 ι2 H2 x2 hH2 hq2 w rw' => hs Z ι2 H2 σ ah2 _ y w Q hH2 rw' hx hq2⟩
  · exact hq.elim
theorem de_join (h1 : DE X W o f) (h2 : DE X W e k) (hs : starEach [e] X.env = [(false, eval e X.env)] := by rfl) (hbase : attributeBase o "join" X.env (eval o X.env) = eval o X.env := by rfl) (hline : (apos.endLine == pos.line) = true := by rfl) :
    DE X W (.Call (.Attribute o "join" apos) [e] [] pos) (cStr1 dJoin f k) := by
  refine ⟨(pe_join h1.pe h2.pe hs hbase hline).weak fun σ H Q h => cStr1_run (fun Z ι H σ ah s d v Q hH rv hx hq => ?_) h⟩
  unfold dJoin at hq
  split at hq
  · rename_i ys e
    rw [Option.bind_eq_some_iff] at e
    obtain ⟨xs, e1, e2⟩ := e
    split at hq
    · rename_i q
      obtain ⟨q1, q2⟩ := q
      obtain ⟨p, vs, rfl, f1, l1, r1⟩ := itemsOf_run hH rv e1
      have := strsOf_run r1 e2
      subst this
      exact ⟨s, p, ys, rfl, rfl, f1, q1, hq.now hH _ (.str _ q2)⟩
    · exact hq.elim
  · exact hq.elim
end
end Qd

set_option Elab.async false
set_option linter.all false
set_option maxRecDepth 100000
set_option maxHeartbeats 2000000
/-! QSeq: enumerate (from a number on) and zip over lists and tuples, walked. -/
namespace Qd
open PySem PySem.Spec PyProof.Rows L2
/-- lists and tuples alike -/
inductive SK where
  | l
  | t
def SK.at (k : SK) (h : Heap) (it a : Addr) (i : Nat) : Prop := match k with
  | .l => h.IsListIter it a i
  | .t => h.IsTupleIter it a i
def SK.is (k : SK) (h : Heap) (a : Addr) (its : Array Value) : Prop := match k with
  | .l => h.IsList a its
  | .t => h.IsTuple a its
def SK.sq (k : SK) (K : PySem.W.Frag) (H : Hp) (a : Addr) (xs : List V) : Prop := match k with
  | .l => SqL K H a xs
  | .t => SqT K H a xs
def SK.obj (k : SK) (a : Addr) : Obj := match k with
  | .l => { cls := .type "list_iterator", data := .fields #[.ref a, .int 0 0] }
  | .t => { cls := .type "tuple_iterator", data := .fields #[.ref a, .int 0 0] }
theorem SK.dr {prog : Program} {w : World} {A : Around} (k : SK) (hh : A.handled = none) (it a : Addr) (hne : a ≠ it) (its : Array Value) : Draws prog w A it [it, a] its.size (fun i v => its[i]? = some v) (fun i h => k.at h it a i ∧ k.is h a its) := by
  cases k
  · exact Draws.list hh it a hne its
  · exact Draws.tuple hh it a hne its
theorem SK.begins (k : SK) (a : Addr) (its : Array Value) : Begins (.ref a) (k.obj a) fun h => k.is h a its := by
  cases k
  · exact begins_list a its
  · exact begins_tuple a its
theorem SK.new (k : SK) {h : Heap} {it a : Addr} (e : h.get? it = some (k.obj a)) : k.at h it a 0 := by
  cases k <;> exact ⟨_, e, rfl, rfl⟩
theorem SK.at_of {k : SK} {h h' : Heap} {it a : Addr} {i : Nat} (x : k.at h it a i) (e : ∀ o, h.get? it = some o → h'.get? it = some o) : k.at h' it a i := by
  cases k
  · exact Heap.IsListIter.at x e
  · exact Heap.IsTupleIter.at x e
theorem SK.there {k : SK} {h : Heap} {it a : Addr} {i : Nat} (x : k.at h it a i) : ∃ o vs, h.get? it = some o ∧ o.data = .fields vs := by
  cases k
  · obtain ⟨o, h1, _, h3⟩ := x; exact ⟨o, _, h1, h3⟩
  · obtain ⟨o, h1, _, h3⟩ := x; exact ⟨o, _, h1, h3⟩
theorem SK.lt {k : SK} {h : Heap} {it a : Addr} {i : Nat} (x : k.at h it a i) : it < h.objs.size := by
  obtain ⟨o, vs, e, _⟩ := SK.there x; exact Heap.lt_size e
section
variable {X : Cx} {pins : List (Addr × Obj)} {σ : L2.St} {H : Hp} {s : Shared} {a : Addr} {xs ys : List V}
theorem sk_inv {k : SK} (I : Inv X pins σ H s) (h : k.sq X.K H a xs) : ∃ its : List Value, Vals xs its ∧ k.is s.heap a its.toArray ∧ xs.length ≤ sizeLine ∧ a < s.heap.objs.size := by
  cases k
  · obtain ⟨its, rv, p, hz⟩ := I.list h; exact ⟨its, rv, p.isList, hz, p.lt⟩
  · obtain ⟨its, rv, p, hz⟩ := I.tuple h
    obtain ⟨o1, ho1, _⟩ := id p
    exact ⟨its, rv, p, hz, Heap.lt_size ho1⟩
theorem sk_inj {k : SK} (I : Inv X pins σ H s) (h : k.sq X.K H a xs) (h' : k.sq X.K H a ys) : xs = ys := by
  cases k
  · exact I.list_inj h h'
  · exact I.tuple_inj h h'
end
theorem sk_next_end {prog : Program} {w : World} {A : Around} {E : Value → Shared → Prop} {s : Shared} {k : SK} {it a : Addr} {i : Nat} {its : Array Value} {Q : Value → Shared → Prop} (hh : A.handled = none) (hit : k.at s.heap it a i) (hl : k.is s.heap a its) (hx : its[i]? = none)
    (hE : ∀ h' e, Heap.ExtBut it s.heap h' → (∃ o, h'.get? e = some o ∧ o.cls = .type "StopIteration") → E (.ref e) { s with heap := h' }) : wpAny (model prog w) A (Builtin.SmallTypes.nextOf (.ref it)) Q E s := by
  cases k
  · exact wpAny_nextOf_list_end hh hit hl hx hE
  · exact wpAny_nextOf_tuple_end hh hit hl hx hE
theorem sk_enum_end {prog : Program} {w : World} {A : Around} {E : Value → Shared → Prop} {s : Shared} {k : SK} {e it a : Addr} {i : Nat} {c : Int} {its : Array Value} {old : Value} {Q : Option Value → Shared → Prop} (he : IsEnum s.heap e it c old) (hit : k.at s.heap it a i) (hl : k.is s.heap a its)
    (hx : its[i]? = none) (hh : A.handled = none) (hQ : ∀ h', Heap.ExtBut it s.heap h' → Q none { s with heap := h' }) : wpAny (model prog w) A (pyNext (.ref e)) Q E s := by
  have hT : s.TypeIs (.ref e) "enumerate" := ⟨_, he, rfl⟩
  unfold pyNext
  refine wpAny_bind (wpAny_attempt (wpAny_callSpecial?_slot (name := Str.ofString "__next__") hT F.slot_enumerate_next
    (wpAny_call_entry F.slot_enumerate_next hT F.entry_enumerate_next ?_ (F.args_enumerate_next_1 _))))
  show wpAny _ _ (field (.ref e) 2 >>= _) _ _ _
  refine wpAny_bind (wpAny_field he rfl (x := .ref it) rfl ?_)
  refine wpAny_bind (sk_next_end hh hit hl hx fun h' x he' hx' => ?_)
  obtain ⟨o, ho, hc⟩ := hx'
  refine wpAny_bind (wpAny_isInstance (T := "StopIteration") (b := true) ⟨o, ho, hc⟩ isSubtype_stop ?_)
  exact wpAny_pure (hQ _ he')
/-! ### enumerate -/
def Itn (K : PySem.W.Frag) (k : SK) (n0 : Int) (a : Addr) : It :=
  ⟨fun i H => ∃ (xs : List V) (x : V), k.sq K H a xs ∧ xs[i]? = some x, fun i H v H' => ∃ T x, v = .ref T ∧ H T = none ∧ H' = upd H T (.tup [.int (n0 + (i : Nat)), x]) ∧ ∀ xs, k.sq K H a xs → xs[i]? = some x, fun i H => ∃ xs : List V, k.sq K H a xs ∧ xs.length ≤ i⟩
theorem turn_en {P : Program} {w : World} {K : PySem.W.Frag} {elts : List Expr} {kk : Nat} {tpos : Pos} (k : SK) (n0 : Int) (a e it : Addr) :
    Turn P w K (.Tuple elts kk tpos) (Itn K k n0 a) [e, it] e (fun i h => (∃ old, IsEnum h e it (n0 + ((i : Nat) : Int)) old) ∧ k.at h it a i ∧ e ≠ it ∧ a ≠ e ∧ a ≠ it) where
  mem := by simp
  obj := fun i h st b hb => by
    obtain ⟨⟨old, he⟩, hi, _⟩ := st
    obtain ⟨o, vs, ho, hd⟩ := SK.there hi
    have e' : b = e ∨ b = it := by simpa using hb
    rcases e' with z | z
    · rw [z]; exact ⟨_, he, fun v q => nomatch q⟩
    · rw [z]; exact ⟨o, ho, fun v q => by rw [hd] at q; cases q⟩
  keep := fun i h h' st kp => let ⟨⟨old, he⟩, hi, hne⟩ := st; ⟨⟨old, kp e (by simp) _ he⟩, SK.at_of hi fun o q => kp it (by simp) o q, hne⟩
  item := by
    intro X hP hw hK hc i pins s σ H E I hf st hg
    subst hP hw hK
    obtain ⟨⟨old, he⟩, hit, hne, ae, ai⟩ := st
    obtain ⟨xs, x, hq, hx⟩ := hg
    obtain ⟨its, rv, p, hz, _⟩ := sk_inv I hq
    obtain ⟨u, hu, ru⟩ := rv.get hx
    have hel : e < s.heap.objs.size := Heap.lt_size he
    have hil : it < s.heap.objs.size := SK.lt hit
    have hu' : its.toArray[i]? = some u := by simpa using hu
    have hlt : i < its.toArray.size := by
      rcases Nat.lt_or_ge i its.toArray.size with q | q
      · exact q
      · rw [Array.getElem?_eq_none q] at hu'; cases hu'
    refine wpAny_pyNext_enum_itemC (k.dr (A := X.A.in1) (I.ok.hd hc) it a ai its.toArray) he ⟨hit, p⟩ hlt hne (by simp [hne, ae.symm]) fun x' h' tk hx' ho st' hT hsz hk => ?_
    rw [hu'] at hx'; cases hx'
    refine ⟨_, rfl, wpAny_letOwnedTupleGo_enum (s := { s with heap := h', toks := tk + 1 }) ho fun h'' he' sb => ?_⟩
    have hT2 : h''.get? s.heap.objs.size = some { cls := .type "tuple", data := .seq #[.int (n0 + (i : Nat)) tk, u] } := (sb.2 _ (Nat.ne_of_gt hel)).trans hT
    have new : ObjOk X.prog X.w (upd H s.heap.objs.size (.tup [.int (n0 + (i : Nat)), x])) h'' s.heap.objs.size (.tup [.int (n0 + (i : Nat)), x]) :=
      ⟨by show 2 ≤ sizeLine; decide, [.int (n0 + (i : Nat)) tk, u], .cons ⟨_, rfl⟩ (.cons ru .nil), ⟨_, hT2, rfl, _, rfl⟩⟩
    have I1 : Inv X pins σ (upd H s.heap.objs.size (.tup [.int (n0 + (i : Nat)), x])) { s with heap := h'', toks := tk + 1 } :=
      I.turnedNew (ch := [e, it]) (fun b ob hb q => (sb.2 b (fun z => hb (by simp [z]))).trans (hk b ob (fun z => hb (by simp [z])) (fun z => hb (by simp [z])) q)) hf (Nat.le_refl _) new
    refine ⟨.ref s.heap.objs.size, _, I1, rfl, ⟨_, x, rfl, I.hok.fresh (Nat.le_refl _), rfl, fun ys hy => by rw [sk_inj I hy hq]; exact hx⟩, ⟨⟨u, ?_⟩, SK.at_of st'.1 fun o q => (sb.2 it (Ne.symm hne)).trans q, hne, ae, ai⟩, fun b hb => ?_⟩
    · have e1 : n0 + ((i + 1 : Nat) : Int) = n0 + (i : Int) + 1 := by omega
      rw [e1]; exact he'
    · have hb' : b < s.heap.objs.size := by
        have e' : b = e ∨ b = it := by simpa using hb
        rcases e' with z | z
        · rw [z]; exact hel
        · rw [z]; exact hil
      rw [upd_ne (Nat.ne_of_lt hb')]
      exact (hf b hb).1
  done := by
    intro X hP hw hK hc i pins s σ H E I hf st hg
    subst hP hw hK
    obtain ⟨⟨old, he⟩, hit, hne, ae, ai⟩ := st
    obtain ⟨xs, hq, hx⟩ := hg
    obtain ⟨its, rv, p, hz, _⟩ := sk_inv I hq
    obtain ⟨f0, f1, f2, f3, f4, f5⟩ := hf it (by simp)
    have hl := rv.length
    exact sk_enum_end he hit p (Array.getElem?_eq_none (by simp; omega)) (I.ok.hd hc) fun h' eb => ⟨rfl, I.turned (t' := s.toks) (fun b o hb q => eb b o hb q) f0 f1 f3 f4 f5⟩
  self := fun A i s Q E st h => let ⟨⟨_, he⟩, _⟩ := st; wpAny_pyIter_enum he h

set_option maxHeartbeats 2000000 in
theorem meets_en1 {v : Value} {o : Obj} {H : Heap → Prop} (B : Begins v o H) :
    Meets (Builtin.«enumerate.__new__» ⟨[.type "enumerate", v], []⟩) (fun _ R s => H s.heap ∧
      R (.ok (.ret (.ref (s.heap.push o).objs.size))) { s with heap := (s.heap.push o).push { cls := .type "enumerate", data := .fields #[.none, .bool false, .ref s.heap.objs.size, rawInt 0, .none, .none] } }) :=
  .of_wp fun prog w A R s h => by
    obtain ⟨hp, g, d, tk, os⟩ := s; obtain ⟨h1, h⟩ := h
    have hsub := sub_enumerate
    have q1 : ∀ {A' : Around} {E : Value → Shared → Prop} {Q : Value → Shared → Prop}, Q (.ref hp.objs.size) ⟨hp.push o, g, d, tk, os⟩ → wpAny (model prog w) A' (pyIter v) Q E ⟨hp, g, d, tk, os⟩ :=
      fun q => B.iter prog w _ _ ⟨hp, g, d, tk, os⟩ _ h1 q
    wp_walk using q1
    refine wpAny_stack_any fun st => wpAny_pure ?_
    split
    · rename_i c _ _ _ _ _
      cases (c == Value.type "enumerate")
      · wp_walk using q1
        exact ⟨_, rfl, h⟩
      · wp_walk using q1
        exact ⟨_, rfl, h⟩
    · wp_walk using q1
      exact ⟨_, rfl, h⟩
theorem en_begins1 {prog : Program} {w : World} {A : Around} {E : Value → Shared → Prop} {s : Shared} {v : Value} {o : Obj} {H : Heap → Prop} {Q : Value → Shared → Prop} (B : Begins v o H) (h1 : H s.heap)
    (h : ∀ h', IsEnum h' (s.heap.objs.size + 1) s.heap.objs.size 0 .none → h'.get? s.heap.objs.size = some o → h'.objs.size = s.heap.objs.size + 2 →
      (∀ b o, s.heap.get? b = some o → h'.get? b = some o) → Q (.ref (s.heap.objs.size + 1)) { s with heap := h' }) :
    wpAny (model prog w) A (call (.type "enumerate") [v]) Q E s := by
  refine callType_new F.called_enumerate (by decide) (F.typeCall_enumerate_1 _) (F.newCall_enumerate_1 _) (fun obj => F.args_object_init_2 obj _) F.entry_enumerate_new
    (meets_en1 B) ⟨h1, ?_⟩
  have hz : (s.heap.push o).objs.size = s.heap.objs.size + 1 := Heap.size_push ..
  show _ ∧ _
  rw [hz]
  have he : IsEnum ((s.heap.push o).push { cls := .type "enumerate", data := .fields #[.none, .bool false, .ref s.heap.objs.size, rawInt 0, .none, .none] }) (s.heap.objs.size + 1) s.heap.objs.size 0 .none := by
    have := Heap.get?_push_size (s.heap.push o) (o := { cls := .type "enumerate", data := .fields #[.none, .bool false, .ref s.heap.objs.size, rawInt 0, .none, .none] }) rfl
    rw [hz] at this; exact this
  refine ⟨⟨_, he, rfl⟩, h _ he (Heap.get?_push_of_some _ (Heap.get?_push_size _ B.free)) (by rw [Heap.size_push, hz]) fun b o x => Heap.get?_push_of_some _ (Heap.get?_push_of_some _ x)⟩
def tEn (K : PySem.W.Frag) (ta : TA) : TI := fun σ H R => ta σ H fun vs H1 => ∃ k a xs, vs = [.ref a] ∧ SK.sq k K H1 a xs ∧ R (Itn K k 0 a) H1
def tEn2 (K : PySem.W.Frag) (ta : TA) : TI := fun σ H R => ta σ H fun vs H1 => ∃ k n0 a xs, vs = [.ref a, .int n0] ∧ -(2 ^ 62) ≤ n0 ∧ n0 < 2 ^ 62 ∧ SK.sq k K H1 a xs ∧ R (Itn K k n0 a) H1
section
variable {X : Cx} {W : WX} {e e2 : Expr} {ta : TA} {p pos tpos : Pos} {elts : List Expr} {kk : Nat}
theorem pie_en {pins : List (Addr × Obj)} {σ : L2.St} {H1 : Hp} {s1 : Shared} {R : It → Hp → Prop} {k : SK} {n0 : Int} {a : Addr} {h' : Heap} (I1 : Inv X pins σ H1 s1) (hlt : a < s1.heap.objs.size) (he : IsEnum h' (s1.heap.objs.size + 1) s1.heap.objs.size n0 .none) (hit : h'.get? s1.heap.objs.size = some (k.obj a))
    (hk : ∀ b o, s1.heap.get? b = some o → h'.get? b = some o) (q : R (Itn X.K k n0 a) H1) : wpAny (model X.prog X.w) X.A (pyIter (.ref (s1.heap.objs.size + 1))) (PIE X pins σ (.Tuple elts kk tpos) R) X.xe { s1 with heap := h' } := by
  refine wpAny_pyIter_enum he ?_
  have I2 : Inv X pins σ H1 { s1 with heap := h' } := I1.kept (t' := s1.toks) hk
  have he0 : IsEnum h' (s1.heap.objs.size + 1) s1.heap.objs.size (n0 + ((0 : Nat) : Int)) .none := by
    have e0 : n0 + ((0 : Nat) : Int) = n0 := by omega
    rw [e0]; exact he
  refine ⟨s1.heap.objs.size + 1, [s1.heap.objs.size + 1, s1.heap.objs.size], _, _, H1, rfl, I2, turn_en k n0 a (s1.heap.objs.size + 1) s1.heap.objs.size,
    ⟨⟨.none, he0⟩, SK.new k hit, Nat.succ_ne_self _, Nat.ne_of_lt (Nat.lt_succ_of_lt hlt), Nat.ne_of_lt hlt⟩, fun b hb => ?_, q⟩
  have e' : b = s1.heap.objs.size + 1 ∨ b = s1.heap.objs.size := by simpa using hb
  have hle : s1.heap.objs.size ≤ b := by
    rcases e' with z | z
    · rw [z]; exact Nat.le_add_right _ _
    · rw [z]; exact Nat.le_refl _
  exact I1.fpOk hle (I1.hok.fresh hle)
theorem pi_en2 (hg : Gl X "enumerate") (hm : X.mg "enumerate" = none) (ha : PA X [e, e2] ta) (hs : starEach [e, e2] X.env = (false, eval e X.env) :: starEach [e2] X.env := by rfl) (hpl : (backTo pos (starEach [e2] X.env)).any (·.1) = false := by rfl) :
    PI X (.Tuple elts kk tpos) (.Call (.Name "enumerate" p) [e, e2] [] pos) (tEn2 X.K ta) := by
  refine ⟨fun pins s σ H R I h => ?_⟩
  refine Call_ (ld_blt I hg hm boot_enumerate (PyProof.Rows.callWith_type1 (thn (ha.run pos pins s σ H _ I h) fun us s1 ⟨vs, H1, I1, r1, q1⟩ => ?_) hs hpl))
  obtain ⟨k, n0, a, xs, ex, b1, b2, hq, q⟩ := q1
  subst ex
  obtain ⟨u1, u2, rfl, ra, rb⟩ := r1.two
  cases ra
  obtain ⟨t, rfl⟩ := rb
  obtain ⟨its, rv, p', hz, hlt⟩ := sk_inv I1 hq
  exact enum_begins (k.begins a its.toArray) p' (by omega) (by omega) fun h' he hit hsz hk => pie_en I1 hlt he hit hk q
theorem pi_en (hg : Gl X "enumerate") (hm : X.mg "enumerate" = none) (ha : PA X [e] ta) (hs : starEach [e] X.env = (false, eval e X.env) :: starEach [] X.env := by rfl) :
    PI X (.Tuple elts kk tpos) (.Call (.Name "enumerate" p) [e] [] pos) (tEn X.K ta) := by
  refine ⟨fun pins s σ H R I h => ?_⟩
  refine Call_ (ld_blt I hg hm boot_enumerate (PyProof.Rows.callWith_type1 (thn (ha.run pos pins s σ H _ I h) fun us s1 ⟨vs, H1, I1, r1, q1⟩ => ?_) hs rfl))
  obtain ⟨k, a, xs, ex, hq, q⟩ := q1
  subst ex
  obtain ⟨u1, rfl, ra⟩ := r1.one
  cases ra
  obtain ⟨its, rv, p', hz, hlt⟩ := sk_inv I1 hq
  exact en_begins1 (k.begins a its.toArray) p' fun h' he hit hsz hk => pie_en I1 hlt he hit hk q
end
/-! ### zip -/
def Itzx (K : PySem.W.Frag) (k1 k2 : SK) (a b : Addr) : It :=
  ⟨fun i H => ∃ (xs ys : List V) (x y : V), k1.sq K H a xs ∧ k2.sq K H b ys ∧ xs[i]? = some x ∧ ys[i]? = some y,
    fun i H v H' => ∃ T x y, v = .ref T ∧ H T = none ∧ H' = upd H T (.tup [x, y]) ∧ (∀ xs, k1.sq K H a xs → xs[i]? = some x) ∧ ∀ ys, k2.sq K H b ys → ys[i]? = some y,
    fun i H => ∃ xs ys : List V, k1.sq K H a xs ∧ k2.sq K H b ys ∧ i ≤ xs.length ∧ i ≤ ys.length ∧ (i = xs.length ∨ i = ys.length)⟩
theorem turn_zx {P : Program} {w : World} {K : PySem.W.Frag} {elts : List Expr} {kk : Nat} {tpos : Pos} {k1 k2 : SK} {a b z TI TO i1 i2 : Addr} (D : ZipSep2 z TI TO i1 i2 [i1, a] [i2, b]) (a1 : a ≠ i1) (b2 : b ≠ i2) :
    Turn P w K (.Tuple elts kk tpos) (Itzx K k1 k2 a b) [z, TI, TO, i1, i2] z (fun i h => IsZip h z TI TO .none ∧ IsTupOf2 h TI (.ref i1) (.ref i2) ∧ (∃ x y, IsTupOf2 h TO x y) ∧ k1.at h i1 a i ∧ k2.at h i2 b i) where
  mem := by simp
  obj := fun i h st c hc => by
    obtain ⟨hz, hTI, ⟨x, y, hTO⟩, h1, h2⟩ := st
    obtain ⟨o1, v1, e1, d1⟩ := SK.there h1
    obtain ⟨o2, v2, e2, d2⟩ := SK.there h2
    have e' : c = z ∨ c = TI ∨ c = TO ∨ c = i1 ∨ c = i2 := by simpa using hc
    rcases e' with q | q | q | q | q
    · rw [q]; exact ⟨_, hz, fun v q => nomatch q⟩
    · rw [q]; exact ⟨_, hTI, fun v q => nomatch q⟩
    · rw [q]; exact ⟨_, hTO, fun v q => nomatch q⟩
    · rw [q]; exact ⟨o1, e1, fun v q => by rw [d1] at q; cases q⟩
    · rw [q]; exact ⟨o2, e2, fun v q => by rw [d2] at q; cases q⟩
  keep := fun i h h' st k => by
    obtain ⟨hz, hTI, ⟨x, y, hTO⟩, h1, h2⟩ := st
    exact ⟨k z (by simp) _ hz, k TI (by simp) _ hTI, ⟨x, y, k TO (by simp) _ hTO⟩, SK.at_of h1 fun o q => k i1 (by simp) o q, SK.at_of h2 fun o q => k i2 (by simp) o q⟩
  item := by
    intro X hP hw hK hc i pins s σ H E I hf st hg
    subst hP hw hK
    obtain ⟨hz, hTI, ⟨x0, y0, hTO⟩, h1, h2⟩ := st
    obtain ⟨xs, ys, x, y, hqx, hqy, hx, hy⟩ := hg
    obtain ⟨its, rv, p, _, _⟩ := sk_inv I hqx
    obtain ⟨its2, rv2, p2, _, _⟩ := sk_inv I hqy
    obtain ⟨u, hu, ru⟩ := rv.get hx
    obtain ⟨u2, hu2, ru2⟩ := rv2.get hy
    have hu' : its.toArray[i]? = some u := by simpa using hu
    have hu2' : its2.toArray[i]? = some u2 := by simpa using hu2
    have lt1 : i < its.toArray.size := by
      rcases Nat.lt_or_ge i its.toArray.size with q | q
      · exact q
      · rw [Array.getElem?_eq_none q] at hu'; cases hu'
    have lt2 : i < its2.toArray.size := by
      rcases Nat.lt_or_ge i its2.toArray.size with q | q
      · exact q
      · rw [Array.getElem?_eq_none q] at hu2'; cases hu2'
    have hzl : z < s.heap.objs.size := Heap.lt_size hz
    refine wpAny_pyNext_zipD2_item D (k1.dr (A := X.A.in1) (I.ok.hd hc) i1 a a1 its.toArray) (k2.dr (A := X.A.in1) (I.ok.hd hc) i2 b b2 its2.toArray) hz hTI hTO ⟨h1, p⟩ ⟨h2, p2⟩ lt1 lt2 fun w1 w2 h' tk e1 e2 z' TO' t1 t2 hT hsz hk => ?_
    rw [hu'] at e1; cases e1
    rw [hu2'] at e2; cases e2
    refine ⟨_, rfl, wpAny_letOwnedTupleGo_zip (s := { s with heap := h', toks := tk }) z' fun h'' z'' sb => ?_⟩
    have hT2 : h''.get? s.heap.objs.size = some { cls := .type "tuple", data := .seq #[u, u2] } := (sb.2 _ (Nat.ne_of_gt hzl)).trans hT
    have new : ObjOk X.prog X.w (upd H s.heap.objs.size (.tup [x, y])) h'' s.heap.objs.size (.tup [x, y]) :=
      ⟨by show 2 ≤ sizeLine; decide, [u, u2], .cons ru (.cons ru2 .nil), ⟨_, hT2, rfl, _, rfl⟩⟩
    have I1 : Inv X pins σ (upd H s.heap.objs.size (.tup [x, y])) { s with heap := h'', toks := tk } :=
      I.turnedNew (t' := tk) (ch := [z, TI, TO, i1, i2]) (fun c o hb q => (sb.2 c (fun q' => hb (by simp [q']))).trans (hk c o (fun q' => hb (by simp [q'])) (fun q' => hb (by simp [q'])) (fun q' => hb (by simp [q'])) (fun q' => hb (by simp [q'])) q)) hf (Nat.le_refl _) new
    refine ⟨.ref s.heap.objs.size, _, I1, rfl, ⟨_, x, y, rfl, I.hok.fresh (Nat.le_refl _), rfl, fun l hl => by rw [sk_inj I hl hqx]; exact hx, fun l hl => by rw [sk_inj I hl hqy]; exact hy⟩, ⟨z'', ?_, ⟨u, u2, ?_⟩, ?_, ?_⟩, fun c hcm => ?_⟩
    · exact (sb.2 _ D.TIz).trans (hk _ _ D.TIz D.TITO D.TIi1 D.TIi2 hTI)
    · exact (sb.2 _ D.TOz).trans TO'
    · exact SK.at_of t1.1 fun o q => (sb.2 _ D.zi1.symm).trans q
    · exact SK.at_of t2.1 fun o q => (sb.2 _ D.zi2.symm).trans q
    · have hlt : c < s.heap.objs.size := by
        have e' : c = z ∨ c = TI ∨ c = TO ∨ c = i1 ∨ c = i2 := by simpa using hcm
        rcases e' with q | q | q | q | q
        · rw [q]; exact hzl
        · rw [q]; exact Heap.lt_size hTI
        · rw [q]; exact Heap.lt_size hTO
        · rw [q]; exact SK.lt h1
        · rw [q]; exact SK.lt h2
      rw [upd_ne (Nat.ne_of_lt hlt)]
      exact (hf c hcm).1
  done := by
    intro X hP hw hK hc i pins s σ H E I hf st hg
    subst hP hw hK
    obtain ⟨hz, hTI, ⟨x0, y0, hTO⟩, h1, h2⟩ := st
    obtain ⟨xs, ys, hqx, hqy, z1, z2, hend⟩ := hg
    obtain ⟨its, rv, p, _, _⟩ := sk_inv I hqx
    obtain ⟨its2, rv2, p2, _, _⟩ := sk_inv I hqy
    have l1 : its.toArray.size = xs.length := by rw [List.size_toArray, ← rv.length]
    have l2 : its2.toArray.size = ys.length := by rw [List.size_toArray, ← rv2.length]
    exact wpAny_pyNext_zipD2_end D (k1.dr (A := X.A.in1) (I.ok.hd hc) i1 a a1 its.toArray) (k2.dr (A := X.A.in1) (I.ok.hd hc) i2 b b2 its2.toArray) hz hTI hTO ⟨h1, p⟩ ⟨h2, p2⟩ (by omega) (by omega) (by omega) fun h' tk hk => ⟨rfl, I.turnedL (t' := tk) (ch := [z, TI, TO, i1, i2]) (fun c o hb q =>
      hk c o (fun q' => hb (by simp [q'])) (fun q' => hb (by simp [q'])) (fun q' => hb (by simp [q'])) (fun q' => hb (by simp [q'])) q) hf⟩
  self := fun A i s Q E st h => wpAny_pyIter_zip st.1 h
def tZx (K : PySem.W.Frag) (ta : TA) : TI := fun σ H R => ta σ H fun vs H1 => ∃ k1 k2 a b xs ys, vs = [.ref a, .ref b] ∧ SK.sq k1 K H1 a xs ∧ SK.sq k2 K H1 b ys ∧ R (Itzx K k1 k2 a b) H1
section
variable {X : Cx} {W : WX} {e e2 : Expr} {ta : TA} {p pos tpos : Pos} {elts : List Expr} {kk : Nat}
theorem pi_zx (hg : Gl X "zip") (hm : X.mg "zip" = none) (ha : PA X [e, e2] ta)
    (hs : starEach [e, e2] X.env = (false, eval e X.env) :: starEach [e2] X.env := by rfl) (hpl : (backTo pos (starEach [e2] X.env)).any (·.1) = false := by rfl) :
    PI X (.Tuple elts kk tpos) (.Call (.Name "zip" p) [e, e2] [] pos) (tZx X.K ta) := by
  refine ⟨fun pins s σ H R I h => ?_⟩
  refine Call_ (ld_blt I hg hm PyProof.Rows.boot_zip (PyProof.Rows.callWith_type1 (thn (ha.run pos pins s σ H _ I h) fun us s1 ⟨vs, H1, I1, r1, q1⟩ => ?_) hs hpl))
  obtain ⟨k1, k2, a, b, xs, ys, ex, hqx, hqy, q⟩ := q1
  subst ex
  obtain ⟨u1, u2, rfl, ra, rb⟩ := r1.two
  cases ra
  cases rb
  obtain ⟨its, rv, p1, _, l1⟩ := sk_inv I1 hqx
  obtain ⟨its2, rv2, p2, _, l2⟩ := sk_inv I1 hqy
  refine zip_begins2 (k1.begins a its.toArray) (k2.begins b its2.toArray) p1 p2 fun h' hz hTI hTO g1 g2 hsz hk => wpAny_pyIter_zip hz ?_
  have I2 : Inv X pins σ H1 { s1 with heap := h' } := I1.kept (t' := s1.toks) hk
  refine ⟨s1.heap.objs.size + 4, [s1.heap.objs.size + 4, s1.heap.objs.size + 2, s1.heap.objs.size + 3, s1.heap.objs.size, s1.heap.objs.size + 1], _, _, H1, rfl, I2,
    turn_zx (zip_sep2 (N := s1.heap.objs.size) (fp1 := [a]) (fp2 := [b]) (fun c hc => by rw [List.mem_singleton.mp hc]; exact l1) (fun c hc => by rw [List.mem_singleton.mp hc]; exact l2)) (Nat.ne_of_lt l1) (Nat.ne_of_lt (Nat.lt_succ_of_lt l2)),
    ⟨hz, hTI, ⟨_, _, hTO⟩, SK.new k1 g1, SK.new k2 g2⟩, fun c hcm => ?_, q⟩
  have e' : c = s1.heap.objs.size + 4 ∨ c = s1.heap.objs.size + 2 ∨ c = s1.heap.objs.size + 3 ∨ c = s1.heap.objs.size ∨ c = s1.heap.objs.size + 1 := by simpa using hcm
  have hle : s1.heap.objs.size ≤ c := by
    rcases e' with z | z | z | z | z
    · rw [z]; exact Nat.le_add_right _ _
    · rw [z]; exact Nat.le_add_right _ _
    · rw [z]; exact Nat.le_add_right _ _
    · rw [z]; exact Nat.le_refl _
    · rw [z]; exact Nat.le_add_right _ _
  exact I1.fpOk hle (I1.hok.fresh hle)
end
end Qd
namespace Qd
open PySem PySem.Spec L2
def WalkX (S : Sr) (Z ι : List Addr) (H : Hp) (iv : ItV) (k : SK) (a : Addr) : Prop :=
  iv.items.length ≤ sizeLine ∧ ∀ Z2 ι2 H2 ah2, Zmore Z H Z2 → Ext ι H ι2 H2 → RH S Z2 ι2 H2 ah2 → heldOk iv.held ah2 = true → ∃ xs, k.sq S.K H2 a xs ∧ RVs S.K Z2 ι2 H2 iv.items xs
theorem itOf_walkX {S : Sr} {Z ι : List Addr} {H : Hp} {ah : List AO} {d : D} {v : V} {iv : ItV} (hH : RH S Z ι H ah) (r : RV S.K Z ι H d v) (e : itOf ah d = some iv) : ∃ a k, v = .ref a ∧ WalkX S Z ι H iv k a ∧ ∃ xs, SK.sq k S.K H a xs := by
  obtain ⟨a, h, ⟨q, x⟩ | ⟨q, x, _⟩⟩ := itOf_walk hH r e
  · exact ⟨a, .l, h, q, x⟩
  · exact ⟨a, .t, h, q, x⟩
def enumD : Int → List D → List D
  | _, [] => []
  | n, d :: ds => .tup [.int n, d] :: enumD (n + 1) ds
theorem enumD_length : ∀ (n : Int) (ds : List D), (enumD n ds).length = ds.length
  | _, [] => rfl
  | n, d :: ds => by rw [enumD, List.length_cons, List.length_cons, enumD_length]
theorem enumD_get : ∀ {n : Int} {ds : List D} {i : Nat} {d : D}, (enumD n ds)[i]? = some d → ∃ x, ds[i]? = some x ∧ d = .tup [.int (n + (i : Nat)), x]
  | n, [], i, d, h => by simp [enumD] at h
  | n, x :: ds, 0, d, h => by
    simp only [enumD, List.getElem?_cons_zero, Option.some.injEq] at h
    refine ⟨x, rfl, ?_⟩
    rw [← h]
    have : n + ((0 : Nat) : Int) = n := by omega
    rw [this]
  | n, x :: ds, i + 1, d, h => by
    simp only [enumD, List.getElem?_cons_succ] at h
    obtain ⟨y, h1, h2⟩ := enumD_get h
    refine ⟨y, by simpa using h1, ?_⟩
    rw [h2]
    have : n + 1 + ((i : Nat) : Int) = n + ((i + 1 : Nat) : Int) := by omega
    rw [this]
theorem en_ok {S : Sr} {Z ι : List Addr} {H : Hp} {u : ItV} {k : SK} {n0 : Int} {a : Addr} (wa : WalkX S Z ι H u k a) : ItOk S Z ι H (Itn S.K k n0 a) ⟨enumD n0 u.items, u.held⟩ := by
  refine ⟨by rw [enumD_length]; exact wa.1, fun Z2 ι2 H2 ah2 m x hH hk i d hd => ?_, fun Z2 ι2 H2 ah2 m x hH hk => ?_⟩
  · obtain ⟨xs, h1, h2⟩ := wa.2 Z2 ι2 H2 ah2 m x hH hk
    obtain ⟨p, e1, rfl⟩ := enumD_get hd
    obtain ⟨vp, ep, rp⟩ := h2.get e1
    refine ⟨⟨xs, vp, h1, ep⟩, fun y H3 hy => ?_⟩
    obtain ⟨T, x', rfl, hT, rfl, q1⟩ := hy
    have z1 := q1 xs h1
    rw [ep] at z1; cases z1
    exact ⟨ext_new hT, hH.new hT, rv_tup hH hT (.cons (.int _) (.one rp)) (show 2 ≤ sizeLine by decide), fun c o q => by rw [upd_ne (ne_of_none q hT)]; exact q⟩
  · obtain ⟨xs, h1, h2⟩ := wa.2 Z2 ι2 H2 ah2 m x hH hk
    refine ⟨xs, h1, ?_⟩
    show xs.length ≤ (enumD n0 u.items).length
    rw [enumD_length, h2.length]; exact Nat.le_refl _
theorem zx_ok {S : Sr} {Z ι : List Addr} {H : Hp} {u v : ItV} {k1 k2 : SK} {a b : Addr} (wa : WalkX S Z ι H u k1 a) (wb : WalkX S Z ι H v k2 b) : ItOk S Z ι H (Itzx S.K k1 k2 a b) ⟨zipD u.items v.items, u.held ++ v.held⟩ := by
  refine ⟨?_, fun Z2 ι2 H2 ah2 m x hH hk i d hd => ?_, fun Z2 ι2 H2 ah2 m x hH hk => ?_⟩
  · show (zipD u.items v.items).length ≤ sizeLine
    unfold zipD
    rw [List.length_zipWith]
    exact Nat.le_trans (Nat.min_le_left _ _) wa.1
  · obtain ⟨k1', k2'⟩ := heldOk_app hk
    obtain ⟨xs, h1, h2⟩ := wa.2 Z2 ι2 H2 ah2 m x hH k1'
    obtain ⟨ys, h3, h4⟩ := wb.2 Z2 ι2 H2 ah2 m x hH k2'
    obtain ⟨p, q, e1, e2, rfl⟩ := zipD_get hd
    obtain ⟨vp, ep, rp⟩ := h2.get e1
    obtain ⟨vq, eq, rq⟩ := h4.get e2
    refine ⟨⟨xs, ys, vp, vq, h1, h3, ep, eq⟩, fun y H3 hy => ?_⟩
    obtain ⟨T, x', y', rfl, hT, rfl, q1, q2⟩ := hy
    have z1 := q1 xs h1
    have z2 := q2 ys h3
    rw [ep] at z1; cases z1
    rw [eq] at z2; cases z2
    exact ⟨ext_new hT, hH.new hT, rv_tup hH hT (.cons rp (.one rq)) pair_line, fun c o q => by rw [upd_ne (ne_of_none q hT)]; exact q⟩
  · obtain ⟨k1', k2'⟩ := heldOk_app hk
    obtain ⟨xs, h1, h2⟩ := wa.2 Z2 ι2 H2 ah2 m x hH k1'
    obtain ⟨ys, h3, h4⟩ := wb.2 Z2 ι2 H2 ah2 m x hH k2'
    refine ⟨xs, ys, h1, h3, ?_⟩
    show (zipD u.items v.items).length ≤ xs.length ∧ (zipD u.items v.items).length ≤ ys.length ∧ ((zipD u.items v.items).length = xs.length ∨ (zipD u.items v.items).length = ys.length)
    unfold zipD
    rw [List.length_zipWith, ← h2.length, ← h4.length]
    omega
def iEnum (g : SA) : SI := fun ρ ah => (g ρ ah).bind fun ds ah1 => match ds with
  | [d] => match itOf ah1 d with
    | some iv => .ok ⟨enumD 0 iv.items, iv.held⟩ ah1
    | none => .stuck
  | _ => .stuck
def iEnum2 (g : SA) : SI := fun ρ ah => (g ρ ah).bind fun ds ah1 => match ds with
  | [d, .int n] => match itOf ah1 d with
    | some iv => if -(2 ^ 62) ≤ n ∧ n < 2 ^ 62 then .ok ⟨enumD n iv.items, iv.held⟩ ah1 else .stuck
    | none => .stuck
  | _ => .stuck
def iZip2 (g : SA) : SI := fun ρ ah => (g ρ ah).bind fun ds ah1 => match ds with
  | [a, b] => match itOf ah1 a, itOf ah1 b with
    | some u, some v => .ok ⟨zipD u.items v.items, u.held ++ v.held⟩ ah1
    | _, _ => .stuck
  | _ => .stuck
section
variable {X : Cx} {W : WX} {pos p tpos : Pos} {x : Str} {e e1 e2 : Expr} {es elts : List Expr} {f k : SE} {g : SA} {kk : Nat}
theorem di_enum (hm : X.mg "enumerate" = none) (ha : DA X W [e] g) (hg : Gl X "enumerate" := by rfl) (hs : starEach [e] X.env = (false, eval e X.env) :: starEach [] X.env := by rfl) : DI X W (.Tuple elts kk tpos) (.Call (.Name "enumerate" p) [e] [] pos) (iEnum g) := by
  refine ⟨(pi_en hg hm ha.pa hs).weak fun σ H R h => ?_⟩
  obtain ⟨Z, ι, ρ, ah, hH, hE, h⟩ := h
  refine ⟨Z, ι, ρ, ah, hH, hE, h.bind.mono fun ds ah1 ι1 H1 x1 hH1 hq vs rvs => ?_⟩
  clear h
  split at hq
  · rename_i d
    cases rvs with
    | cons ra rs =>
      cases rs
      split at hq
      · rename_i iv e
        obtain ⟨a, k, rfl, wa, xs, sa⟩ := itOf_walkX hH1 ra e
        exact ⟨k, a, xs, rfl, sa, hq.now hH1 _ (en_ok wa)⟩
      · exact hq.elim
  · exact hq.elim
theorem di_enum2 (hm : X.mg "enumerate" = none) (ha : DA X W [e1, e2] g) (hg : Gl X "enumerate" := by rfl) (hs : starEach [e1, e2] X.env = (false, eval e1 X.env) :: starEach [e2] X.env := by rfl) (hpl : (backTo pos (starEach [e2] X.env)).any (·.1) = false := by rfl) :
    DI X W (.Tuple elts kk tpos) (.Call (.Name "enumerate" p) [e1, e2] [] pos) (iEnum2 g) := by
  refine ⟨(pi_en2 hg hm ha.pa hs hpl).weak fun σ H R h => ?_⟩
  obtain ⟨Z, ι, ρ, ah, hH, hE, h⟩ := h
  refine ⟨Z, ι, ρ, ah, hH, hE, h.bind.mono fun ds ah1 ι1 H1 x1 hH1 hq vs rvs => ?_⟩
  clear h
  split at hq
  · rename_i d n
    cases rvs with
    | cons ra rs =>
      cases rs with
      | cons rb rs =>
        cases rs
        cases rb
        split at hq
        · rename_i iv e
          split at hq
          · rename_i b
            obtain ⟨a, k, rfl, wa, xs, sa⟩ := itOf_walkX hH1 ra e
            exact ⟨k, n, a, xs, rfl, b.1, b.2, sa, hq.now hH1 _ (en_ok wa)⟩
          · exact hq.elim
        · exact hq.elim
  · exact hq.elim
theorem di_zip2 (hm : X.mg "zip" = none) (ha : DA X W [e1, e2] g) (hg : Gl X "zip" := by rfl) (hs : starEach [e1, e2] X.env = (false, eval e1 X.env) :: starEach [e2] X.env := by rfl) (hpl : (backTo pos (starEach [e2] X.env)).any (·.1) = false := by rfl) :
    DI X W (.Tuple elts kk tpos) (.Call (.Name "zip" p) [e1, e2] [] pos) (iZip2 g) := by
  refine ⟨(pi_zx hg hm ha.pa hs hpl).weak fun σ H R h => ?_⟩
  obtain ⟨Z, ι, ρ, ah, hH, hE, h⟩ := h
  refine ⟨Z, ι, ρ, ah, hH, hE, h.bind.mono fun ds ah1 ι1 H1 x1 hH1 hq vs rvs => ?_⟩
  clear h
  split at hq
  · rename_i a b
    cases rvs with
    | cons ra rs =>
      cases rs with
      | cons rb rs =>
        cases rs
        split at hq
        · rename_i u v ea eb
          obtain ⟨pa, k1, rfl, wa, xs, sa⟩ := itOf_walkX hH1 ra ea
          obtain ⟨pb, k2, rfl, wb, ys, sb⟩ := itOf_walkX hH1 rb eb
          exact ⟨k1, k2, pa, pb, xs, ys, rfl, sa, sb, hq.now hH1 _ (zx_ok wa wb)⟩
        · exact hq.elim
  · exact hq.elim
/-! ### what does not come to pass -/
def sStuck : SS := fun _ _ => .stuck
theorem ds_stuck {st : Stmt} : DS X W st sStuck := ⟨⟨fun pins s σ H D I h => by
  obtain ⟨Z, ι, ρ, ah, hH, hE, h⟩ := h
  exact h.elim⟩⟩
def cStuck : SE := fun _ _ => .stuck
theorem de_stuck : DE X W e cStuck := ⟨⟨fun pins s σ H Q I h => by
  obtain ⟨Z, ι, ρ, ah, hH, hE, h⟩ := h
  exact h.elim⟩⟩
end
end Qd

set_option Elab.async false
set_option linter.all false
set_option maxRecDepth 100000
set_option maxHeartbeats 2000000
/-! QGb: targets of several names within a comprehension; tuples as constants. -/
namespace Qd
open PySem PySem.Spec L2
section
variable {X : Cx} {W : WX} {pos p tpos : Pos} {x : Str} {e e1 e2 tg : Expr} {es elts : List Expr} {f k : SE} {g : SG} {gs : SGs} {kk : Nat} {scope : Scope} {vs ws : List Nat}
structure DGBs (X : Cx) (scope : Scope) (tg : List Expr) (g : SGs) (vs : List Nat) : Prop where
  pg : ∃ t : TGs, (∀ (s : Shared) (H : Hp) (C : Addr) (cl : List (Str × Addr)) (fp : List Addr), PGs (X.blk s H scope (compEnvC scope cl C X.env) fp) tg t) ∧ GsOk X.K X.mg g vs t
theorem dgbs_nil : DGBs X scope [] gsNil [] := by
  refine ⟨gNil, fun _ _ _ _ _ => pgs_nil, fun Z ι H ρ ρ' σ ds ws Q hE rv e h => ?_⟩
  cases rv with
  | nil => cases e; exact ⟨rfl, h σ hE rfl fun _ _ => rfl⟩
  | cons _ _ => cases e
theorem gs_cons_ok {K : PySem.W.Frag} {mg : Str → Option Value} {t : TG} {u : TGs} (q1 : GOk K mg g vs t) (q2 : GsOk K mg gs ws u) : GsOk K mg (gsCons g gs) (vs ++ ws) (gCons t u) := by
  intro Z ι H ρ ρ' σ ds us Q hE rv e h
  cases rv with
  | nil => cases e
  | @cons d v ds us r rs =>
    have e : (g d ρ).bind (fun ρ1 => gs ds ρ1) = some ρ' := e
    cases e1 : g d ρ with
    | none => rw [e1] at e; cases e
    | some ρ1 =>
      rw [e1] at e
      have e : gs ds ρ1 = some ρ' := e
      refine ⟨v, us, rfl, q1 Z ι H ρ ρ1 σ d v _ hE r e1 fun σ1 hE1 l1 k1 => ?_⟩
      refine q2 Z ι H ρ1 ρ' σ1 ds us Q hE1 rs e fun σ2 hE2 l2 k2 => ?_
      refine h σ2 hE2 (l2.trans l1) fun j hj => ?_
      rw [List.mem_append, not_or] at hj
      rw [k2 j hj.2, k1 j hj.1]
theorem dgbs_cons (h1 : DGB X scope e g vs) (h2 : DGBs X scope es gs ws) (hs : ∀ env, (assignEach (e :: es) env).map (·.2) = assign e env :: (assignEach es env).map (·.2) := by intro _; rfl) : DGBs X scope (e :: es) (gsCons g gs) (vs ++ ws) := by
  obtain ⟨t, p1, q1⟩ := h1.pg
  obtain ⟨u, p2, q2⟩ := h2.pg
  exact ⟨gCons t u, fun s H C cl fp => pgs_cons (p1 s H C cl fp) (p2 s H C cl fp) (hs _), gs_cons_ok q1 q2⟩
theorem gtp_ok {K : PySem.W.Frag} {mg : Str → Option Value} {t : TGs} {n : Nat} (q1 : GsOk K mg gs vs t) : GOk K mg (gTp n gs) vs (gTup K n t) := by
  intro Z ι H ρ ρ' σ d v Q hE rv e h
  unfold gTp at e
  split at e
  · split at e
    · rename_i ds hl
      cases rv with
      | tup f1 l1 r1 => exact ⟨_, _, rfl, f1.sq, by rw [← r1.length]; exact hl, q1 Z ι H ρ ρ' σ ds _ Q hE r1 e h⟩
    · cases e
  · cases e
theorem dgb_tup {n : Nat} (hc : X.calm = true) (h : DGBs X scope es gs vs) (hn : ∀ env, (assignEach es env).length = n := by intro _; rfl) (hst : ∀ env, (assignEach es env).findIdx? (·.1) = none := by intro _; rfl) : DGB X scope (.Tuple es kk pos) (gTp n gs) vs := by
  obtain ⟨t, p1, q1⟩ := h.pg
  exact ⟨gTup X.K n t, fun s H C cl fp => pg_tup (X := X.blk s H scope (compEnvC scope cl C X.env) fp) hc (p1 s H C cl fp) (hn _) (hst _), gtp_ok q1⟩
theorem de_gtup {ds : List D} (h : ∃ a, X.mg x = some (.ref a) ∧ ∀ Z ι H, RV X.K Z ι H (.tup ds) (.ref a)) (hg : Gl X x := by rfl) (hd : (x == ("__debug__" : Str)) = false := by decide) : DE X W (.Name x pos) (cC (.tup ds)) := by
  obtain ⟨a, hm, r⟩ := h
  exact de_glob hg hm (v := .ref a) rfl r hd
end
theorem rv_gtup {K : PySem.W.Frag} {a : Addr} {oc : Obj} {its : Array Value} {n : Nat} {xs : List V} {ds : List D} (h1 : K.lookup a = some oc) (h2 : oc.cls = .type "tuple") (h3 : oc.data = .seq its n) (h4 : its.size ≤ sizeLine) (h5 : Vals xs its.toList) (h6 : ∀ Z ι H, RVs K Z ι H ds xs) :
    ∀ Z ι H, RV K Z ι H (.tup ds) (.ref a) := fun Z ι H => .tup (.inr ⟨oc, its, n, h1, h2, h3, h4, h5⟩) (by rw [h5.length, Array.length_toList]; exact h4) (h6 Z ι H)
end Qd

set_option Elab.async false
set_option linter.all false
set_option maxRecDepth 100000
set_option maxHeartbeats 2000000
/-! QExc: own exceptions over ValueError whose __init__ says super().__init__(..) and keeps its arguments. -/
namespace Qx
open PySem PySem.Spec PyProof.Rows L2 PySem.W
/-- what the written part says of the method __init__ at fI of the class at C, with the cell cc of __class__ and the code cda -/
structure IniF (P : Program) (K : PySem.W.Frag) (mg : Str → Option Value) (C fI : Addr) (G : NdefX.NF) (cc : Addr) (fd : FuncData) : Prop where
  ex : ∃ (dV kV doc pm : Value) (an : Option Addr) (ct oc : Value) (od : Option Addr) (osl : Array (Option Value)),
    fd = PySem.W.fnX G.name G.qual G.params G.body G.scope G.cl dV kV doc pm an (.ref G.c) ct ∧ K.lookup fI = some ⟨oc, od, .func fd, osl⟩ ∧ codeIn K (.ref G.c) G.qual = true
  cl : G.cl = [(("__class__" : Str), cc)]
  cdl : ∃ ccl cdd vs ccs file tf, K.lookup G.c = some ⟨ccl, cdd, .fields vs, ccs⟩ ∧ vs[2]? = some (.str file tf) ∧ ((P.main.file : Str) == file) = true
  cell : ∃ cl cld csl, K.lookup cc = some ⟨cl, cld, .cell (some (.ref C)), csl⟩
  sup : mg "super" = none
  top : (P.main.scope.names.lookup ("super" : Str)).isSome = false
  sin : ks_superIn K C C "__init__" = some (some (.builtin "ValueError.__init__"))
  tp : nsIn K cStatics "thirdparty.any" = some none
  sub : subIn K (.ref C) (.type "ValueError") = some true
  sub2 : mroIn K C (.ref C) = some true
section
variable {CX : CXT} {P : Program} {w : World} {K : PySem.W.Frag} {mg : Str → Option Value} {base : Heap} {N ps : List Str} {G : NdefX.NF} {f fI C cc : Addr} {k : Nat} {sp : Sp} {fd : FuncData}
/-- calling the bound wrapper -/
theorem bw_call {X : Cx} {pins : List (Addr × Obj)} {σ : L2.St} {H : Hp} {s : Shared} {a C u : Addr} {rest : List Value} {Q : Value → Shared → Prop} {E : Value → Shared → Prop} {A : Around} (T : OexC X.K C) (I : Inv X pins σ H s) (e : H a = some (exo a C none)) (hl : rest.length ≤ sizeLine) (hu : s.heap.get? u = some (kxs_mw "ValueError.__init__" a))
    (h : ∀ s', Inv X pins σ H s' → Q .none s') : wpAny (model X.prog X.w) A (call (.ref u) rest) Q E s := by
  obtain ⟨nm, q, N, bs, bm, sn, sub, ab, col, dd, k0, k1, k2, k3, k5, hC, hbm⟩ := T.cls
  obtain ⟨t1, ho⟩ := exo_at I.hok e
  obtain ⟨hp, g, d, t, os⟩ := s
  refine wpAny_call (codeAny_of_tree ?_)
  show wpAny _ A.in1 (callAny (.ref u) ⟨rest, []⟩) _ _ _
  simp only [callAny]
  refine wpAny_bind (wpAny_load hu ?_)
  simp only [kxs_mw, show (Value.type "method-wrapper" == Value.type "method" || Value.type "method-wrapper" == Value.type "builtin_function_or_method" || Value.type "method-wrapper" == Value.type "method-wrapper") = true by decide, if_true]
  refine KFB.if_so (by decide) ?_
  refine wpAny_bind (check_bound_init F.excBase_ValueError.toExcCallFacts (I.kIn _ _ hC) ho rfl ?_)
  refine wpAny_bind (wpAny_pure (wpAny_pure ?_))
  refine ⟨plainId_quiet F.excBase_ValueError.init.plain _, codeAny_builtin F.excBase_ValueError.initEntry ?_⟩
  refine exc_init_tree (cls := .ref C) (t0 := t1) (dv := none) (c2 := .none) (c3 := .none) (b4 := .bool false) ho hl fun h' k hx _ => ?_
  have J := I.write (t' := t) (x := a) (e := a) (o := exo a C none) (by rw [e]; exact True.intro) (.inl rfl) k ⟨_, hx⟩ (exo_ok hx)
  have eu : upd H a (exo a C none) = H := by
    funext b
    by_cases hb : b = a
    · rw [hb, upd_same, e]
    · rw [upd_ne hb]
  rw [eu] at J
  exact h _ J

theorem fn_ini {ar : Arg} {ps' : List Str} {p1 p2 p3 p4 p5 : Pos} {e : Expr} {es : List Expr} {rest : List Stmt} {ta : TA} {t : TS} (FI : IniF P K mg C fI G cc fd) (T : OexC K C) (S : NdefX.NScope N ps [("__class__" : Str)] G.scope) (hp0 : (G.params.posonlyargs ++ G.params.args).head? = some ar) (hps : ps = ar.arg :: ps')
    (hbody : G.body = .Expr (.Call (.Attribute (.Call (.Name "super" p1) [] [] p2) "__init__" p3) (e :: es) [] p4) p5 :: rest) (hks : G.scope.names.lookup ("super" : Str) = some .globalImplicit)
    (hb : ∀ A outer s H E, PA (NdefX.ncx CX P w K mg base N G fI A outer s H E) (e :: es) ta ∧ PSs (NdefX.ncx CX P w K mg base N G fI A outer s H E) rest t)
    (he : ∀ env, starEach (e :: es) env = (false, eval e env) :: starEach es env) (hpl : ∀ env, (backTo p4 (starEach es env)).any (·.1) = false)
    (hsw : ∀ env : Env, swapsWith (.Call (.Attribute (.Call (.Name "super" p1) [] [] p2) "__init__" p3) (e :: es) [] p4) none p5.line env = pure false)
    (hcall : ∀ env : Env, ∃ pl : Sem Bool, eval (.Call (.Attribute (.Call (.Name "super" p1) [] [] p2) "__init__" p3) (e :: es) [] p4) env = (do
      let ov ← attributeBase (.Call (.Name "super" p1) [] [] p2) "__init__" env (eval (.Call (.Name "super" p1) [] [] p2) env)
      standAt p3.atName
      let (f, first) ← holding [ov] (getMethod ov "__init__" pl)
      callWith p4 f first (backTo p4 (starEach (e :: es) env)) []))
    (hsp : ∀ vs H Q E, sp vs H Q E → vs.length = ps.length ∧ ∃ x ys, vs = .ref x :: ys ∧ H x = some (exo x C none) ∧ ta (NdefX.startF N vs [some (.ref C)]) H fun us H1 => H1 x = some (exo x C none) ∧ us.length ≤ sizeLine ∧ t { nx := fun _ H' => Q .non H', rt := Q } (NdefX.startF N vs [some (.ref C)]) H1) :
    FnOk P w K mg base CX (k + 1) fI fd ps sp := by
  refine ⟨fun vs H Q E h => (hsp _ _ _ _ h).1, fun A outer s H args us vs Q E hr e0 hbd r h => ?_⟩
  obtain ⟨hl, x, ys, ev, hx, hq⟩ := hsp _ _ _ _ h
  obtain ⟨dV, kV, doc, pm, an, ct, oc, od, osl, hfd, lk, hcd⟩ := FI.ex
  subst hfd
  have KX : K.In s.heap := e0.mod.kin.keeps fun b o e => (e0.bs b o e).1
  have lim : s.heap.NoLimit := e0.mod.nolimit.keeps fun b o e => (e0.bs b o e).1
  obtain ⟨ncl, ncd, ncs, hcc⟩ := FI.cell
  have eL : us.length = ps.length := by rw [← r.length]; exact hl
  refine ks_codeAny_call_defAt (binds := ps.zip us) hr.depth (KX _ _ lk) rfl lim (PySem.W.codeRec_of KX hcd) rfl hbd S.nocell (fun ⟨n, _⟩ hy => S.par n (List.of_mem_zip hy).1) (fun h₁ hns kp => ?_) S.co S.gen S.kind
  have ca : NdefX.CellsAt G.cl [("__class__" : Str)] [some (.ref C)] s.heap H := by
    rw [FI.cl]
    have k1 : ∀ y c, [(("__class__" : Str), cc)].lookup y = some c → y = ("__class__" : Str) ∧ c = cc := fun y c e => by
      simp only [List.lookup] at e
      split at e
      · rename_i q
        cases e
        exact ⟨by simpa using q, rfl⟩
      · cases e
    refine ⟨rfl, fun y c e => ?_, fun x y c e1 e2 => (k1 x c e1).1.trans (k1 y c e2).1.symm, fun i y e => ?_⟩
    · obtain ⟨_, rfl⟩ := k1 y c e
      exact ⟨(e0.bs _ _ (e0.mod.kin _ _ hcc)).2, _, _, KX _ _ hcc, rfl⟩
    · cases i with
      | succ i => simp at e
      | zero =>
        simp only [List.getElem?_cons_zero, Option.some.injEq] at e
        subst e
        refine ⟨cc, by simp [List.lookup], fun v hv => ?_⟩
        simp only [List.getElem?_cons_zero, Option.some.injEq] at hv
        subst hv
        exact ⟨.ref C, rfl, _, KX _ _ hcc, rfl⟩
  have I : Inv (NdefX.ncx CX P w K mg base N G fI A outer s H E) [] (NdefX.startF N vs [some (.ref C)]) H { s with heap := h₁, toks := s.toks + (ps.zip us).length } := NdefX.inv_startN S hr.hd e0 hl r ca hns kp
  obtain ⟨pa, pss⟩ := hb A outer s H E
  have fin : ∀ {σ' : L2.St} {H' : Hp} {v : V} {u : Value} {s' : Shared}, Inv (NdefX.ncx CX P w K mg base N G fI A outer s H E) [] σ' H' s' → L2.RelV v u → Q v H' → CE outer P w H s Q u s' :=
    fun J rv q => ⟨_, _, J.os, J.bare, J.base, J.hok, rv, q⟩
  have hcl := T.cls
  obtain ⟨nm, q, N', bs, bm, sn, sub, ab, col, dd, k0, k1, k2, k3, k5, hC, hbm⟩ := hcl
  have hcls : PySem.W.clsIn K C = some { name := nm, bases := bs, mro := .ref C :: bm, ns := N', qualname := q, hasDict := true, slotNames := sn, subclasses := sub, abstract := ab, collection := col, hasDel := false } := by unfold PySem.W.clsIn; rw [hC] <;> rfl
  subst ev
  obtain ⟨u0, ur, rfl⟩ : ∃ u0 ur, us = u0 :: ur := by
    cases us with
    | nil => rw [hps] at eL; simp at eL
    | cons u0 ur => exact ⟨u0, ur, rfl⟩
  obtain ⟨ra, rr⟩ : u0 = Value.ref x ∧ Vals ys ur := by
    cases r with
    | cons ra rr => exact ⟨ra, rr⟩
  subst ra
  have hself : (ps.zip (Value.ref x :: ur)).reverse.lookup ar.arg = some (.ref x) := by
    have nd : ps.Nodup := by
      have q := S.nd.sublist (List.take_sublist (ps.length + 1) N)
      rw [show N.take (ps.length + 1) = ps ++ [("__class__" : Str)] from S.pre] at q
      exact (List.nodup_append.mp q).1
    exact NdefX.zip_look (i := 0) nd (by rw [hps]; rfl) rfl
  obtain ⟨hp, g, d, tk, os⟩ := s
  show _root_.PySem.wpAt (model P w) (A.deeper (NdefX.envF G fI hp.objs.size)) (.func G.body (NdefX.envF G fI hp.objs.size)) (execs G.body (NdefX.envF G fI hp.objs.size)) _ _ _
  have hex : execs G.body (NdefX.envF G fI hp.objs.size) = execs (.Expr (.Call (.Attribute (.Call (.Name "super" p1) [] [] p2) "__init__" p3) (e :: es) [] p4) p5 :: rest) (NdefX.envF G fI hp.objs.size) := by rw [hbody]
  rw [hex]
  obtain ⟨pl, hcl1⟩ := hcall (NdefX.envF G fI hp.objs.size)
  refine ks_wpAt_execs_cons (ks_wpAt_Expr_any (ks_wpAt_MethodCall (pl := pl) ?_ hcl1) I.quiet (hsw _))
  obtain ⟨ccl, cdd, vs, ccs, file, tf, hcda, hvs, hfile⟩ := FI.cdl
  have KX1 : K.In h₁ := KX.keeps kp
  have hkc : (NdefX.envF G fI hp.objs.size).kindOf "__class__" = some .free := S.frk _ (by simp)
  refine ks_wpAt_super_base (env := NdefX.envF G fI hp.objs.size) hks hkc rfl rfl (kp _ _ (KX _ _ lk)) rfl hp0 rfl (KX1 _ _ hcda) rfl hvs hfile FI.top ?_
  obtain ⟨mb, b1, b2⟩ := I.mod.blt
  refine ks_loadName_global S.kind hks (Calls.loadGlobal_builtin (env := NdefX.envF G fI hp.objs.size) (I.mod.glob.keeps I.bk) FI.sup (b1.keeps I.bk) ((b2 _ (by decide)).trans (by decide +kernel : bootBuiltins "super" = some (.type "super"))) ⟨rfl, ?_⟩)
  refine wpAny_loadName_free S.kind hkc (c := cc) (by show G.cl.lookup _ = _; rw [FI.cl]; simp [List.lookup]) ⟨_, KX1 _ _ hcc, rfl⟩ ?_
  refine wpAny_loadName_local S.kind (S.par _ (by rw [hps]; exact List.mem_cons_self)) hns hself ?_
  refine ks_wpAny_isType_cls (KX1 _ _ hC) rfl ⟨rfl, ?_⟩
  obtain ⟨t1, ho⟩ := exo_at I.hok hx
  refine ks_wpAny_call_super (KX1 _ _ hC) rfl ho rfl (fun c => by intro z; cases z) (looks_mroIn KX1 FI.sub2) fun h' e' k => ?_
  have I2 : Inv (NdefX.ncx CX P w K mg base N G fI A outer ⟨hp, g, d, tk, os⟩ H E) [] (NdefX.startF N (.ref x :: ys) [some (.ref C)]) H ⟨h', g, d, tk + (ps.zip (Value.ref x :: ur)).length, os⟩ := I.kept (t' := tk + (ps.zip (Value.ref x :: ur)).length) k
  have KX2 : K.In h' := KX1.keeps k
  have hia : InstAt h' x { cls := .ref C, dict := none, data := .fields #[.ref t1, .none, .none, .none, .bool false, .none] } C none := ⟨k _ _ ho, rfl, rfl, trivial⟩
  have hI : Looks (model P w) h' (isInstance (.ref x) (.type "ValueError")) true := hia.type.andThen (looks_subIn KX2 FI.sub)
  have hsin : alongIn K ("__init__" : Str) ((((.ref C :: bm : List Value)).dropWhile (· != .ref C)).drop 1) = some (some (.builtin "ValueError.__init__")) := by
    have z := FI.sin
    unfold ks_superIn at z
    rw [hcls] at z
    exact z
  refine kxs_getMethod kxs_ValueError e' (looks_opaque KX2 FI.tp) (l₀ := .ref C :: bm) (fun A Q E s k q => wpAny_bind ((looks_clsIn KX2 hcls) A _ E s k (wpAny_pure q))) rfl KX2 hsin hI (ks_ne KX2 hia hcls) rfl ?_
  have I3 : Inv (NdefX.ncx CX P w K mg base N G fI A outer ⟨hp, g, d, tk, os⟩ H E) [] (NdefX.startF N (.ref x :: ys) [some (.ref C)]) H ⟨h'.push (kxs_mw "ValueError.__init__" x), g, d, tk + (ps.zip (Value.ref x :: ur)).length + 1, os⟩ :=
    I2.kept (t' := tk + (ps.zip (Value.ref x :: ur)).length + 1) fun b o z => Heap.get?_push_of_some _ z
  have hu : (h'.push (kxs_mw "ValueError.__init__" x)).get? h'.objs.size = some (kxs_mw "ValueError.__init__" x) := Heap.get?_push_at rfl rfl
  have fp := I2.fpOk (H' := H) (Nat.le_refl _) (I2.hok.fresh (Nat.le_refl _))
  have I4 : Inv (NdefX.ncx CX P w K mg base N G fI A outer ⟨hp, g, d, tk, os⟩ H E) [(h'.objs.size, kxs_mw "ValueError.__init__" x)] (NdefX.startF N (.ref x :: ys) [some (.ref C)]) H ⟨h'.push (kxs_mw "ValueError.__init__" x), g, d, tk + (ps.zip (Value.ref x :: ur)).length + 1, os⟩ :=
    I3.pins_of fun p hp => by
      rw [List.mem_singleton.mp hp]
      exact ⟨hu, fp.1, fp.2.1, fp.2.2.1, fun v z => nomatch z⟩
  have hargs := pa.run p4 _ _ _ H _ I4 hq
  show wpAny (model P w) (A.deeper (NdefX.envF G fI hp.objs.size)) (callWith p4 (.ref h'.objs.size) [] (backTo p4 (starEach (e :: es) (NdefX.envF G fI hp.objs.size))) []) _ _ _
  have hst := he (NdefX.envF G fI hp.objs.size)
  have hargs : wpAny (model P w) (A.deeper (NdefX.envF G fI hp.objs.size)) (spliced (backTo p4 (starEach (e :: es) (NdefX.envF G fI hp.objs.size)))) _ _ _ := hargs
  rw [hst] at hargs ⊢
  refine kxs_callWith (i := "ValueError.__init__") (x := x) (by show (false || (backTo p4 (starEach es _)).any (·.1)) = false; rw [hpl]; rfl) (Calls.evalArgs_plain (thn hargs fun us2 s2 ⟨vs2, H2, I5, r2, hx2, hl2, q2⟩ => ⟨(I5.pin (h'.objs.size, kxs_mw "ValueError.__init__" x) (List.mem_append_right _ (List.mem_singleton.mpr rfl))).1, ?_⟩))
  show wpAny _ _ (call (.ref h'.objs.size) us2) _ _ _
  refine bw_call T (I5.pins_of (pins' := []) fun p hp => absurd hp (by simp)) hx2 (by rw [← r2.length]; exact hl2) (I5.pin (h'.objs.size, kxs_mw "ValueError.__init__" x) (List.mem_append_right _ (List.mem_singleton.mpr rfl))).1 fun s3 J => ?_
  refine wpAt_of_wpAny (wpAny_mono (pss.run [] s3 _ H2 _ J q2) (fun fl s' hs => ?_) fun e s' hs => hs)
  cases fl with
  | ret u =>
    obtain ⟨v, σ', H', J, rv, q⟩ := hs
    exact fin J rv q
  | next =>
    obtain ⟨σ', H', J, q⟩ := hs
    exact fin (v := V.non) (u := Value.none) J rfl q
  | brk =>
    obtain ⟨_, _, _, q⟩ := hs
    exact False.elim q
  | cont =>
    obtain ⟨_, _, _, q⟩ := hs
    exact False.elim q

/-- what __init__ of two fields promises -/
def sp2 (K : PySem.W.Frag) (C : Addr) (f g : Str) : Sp := fun vs H Q _ => ∃ x u v, vs = [.ref x, u, v] ∧ H x = some (exo x C none) ∧
  ∀ dx, H dx = none → dx ≠ x → Q .non (upd (upd (upd H dx (exd dx [(f, u)])) x (exo x C (some dx))) dx (exd dx [(g, v), (f, u)]))
def sp1 (K : PySem.W.Frag) (C : Addr) (f : Str) : Sp := fun vs H Q _ => ∃ x u, vs = [.ref x, u] ∧ H x = some (exo x C none) ∧
  ∀ dx, H dx = none → dx ≠ x → Q .non (upd (upd H dx (exd dx [(f, u)])) x (exo x C (some dx)))
section
variable {p1 p2 p3 p4 p5 q1 q2 q3 q4 r1 r2 r3 r4 s1 s2 : Pos} {a b f g : Str} {pa pb pc : Option Expr}
theorem fn_ini2 {ar : Arg} (FI : IniF P K mg C fI G cc fd) (T : OexC K C) (S : NdefX.NScope [("self" : Str), a, b, ("__class__" : Str)] [("self" : Str), a, b] [("__class__" : Str)] G.scope) (hp0 : (G.params.posonlyargs ++ G.params.args).head? = some ar) (har : ar.arg = ("self" : Str))
    (hbody : G.body = [.Expr (.Call (.Attribute (.Call (.Name "super" p1) [] [] p2) "__init__" p3) [.Name a s1, .Name b s2] [] p4) p5, .Assign [.Attribute (.Name "self" q1) f q2] (.Name a q3) q4, .Assign [.Attribute (.Name "self" r1) g r2] (.Name b r3) r4])
    (hks : G.scope.names.lookup ("super" : Str) = some .globalImplicit) (ka : G.scope.names.lookup a = some .local) (kb : G.scope.names.lookup b = some .local) (kself : G.scope.names.lookup ("self" : Str) = some .local)
    (da : (a == ("__debug__" : Str)) = false) (db : (b == ("__debug__" : Str)) = false) (ca : (a == ("__classdict__" : Str)) = false) (cb : (b == ("__classdict__" : Str)) = false)
    (nf : findIn K (.ref C) f = some none) (ng : findIn K (.ref C) g = some none)
    (hcall : ∀ env : Env, ∃ pl : Sem Bool, eval (.Call (.Attribute (.Call (.Name "super" p1) [] [] p2) "__init__" p3) [.Name a s1, .Name b s2] [] p4) env = (do
      let ov ← attributeBase (.Call (.Name "super" p1) [] [] p2) "__init__" env (eval (.Call (.Name "super" p1) [] [] p2) env)
      standAt p3.atName
      let (f, first) ← holding [ov] (getMethod ov "__init__" pl)
      callWith p4 f first (backTo p4 (starEach [.Name a s1, .Name b s2] env)) [])) : FnOk P w K mg base CX (k + 1) fI fd [("self" : Str), a, b] (sp2 K C f g) := by
  refine fn_ini (t := tSeq (tOst K f (tVar 0) (tVar 1)) (tSeq (tOst K g (tVar 0) (tVar 2)) tNext)) (ta := tCons (tVar 1) (tCons (tVar 2) tNil)) FI T S hp0 (ps' := [a, b]) (by rw [har]) hbody hks (fun A outer s H E => ⟨?_, ?_⟩) (fun _ => rfl) (fun _ => rfl) (fun _ => rfl) hcall ?_
  · exact pa_cons (pe_var (i := 1) rfl (.inl ka) da ca) (pa_cons (pe_var (i := 2) rfl (.inl kb) db cb) pa_nil rfl) rfl
  · exact pss_cons (ps_ost (pe_var (i := 0) rfl (.inl kself)) (pe_var (i := 1) rfl (.inl ka) da ca) rfl) (pss_cons (ps_ost (pe_var (i := 0) rfl (.inl kself)) (pe_var (i := 2) rfl (.inl kb) db cb) rfl) pss_nil)
  · rintro vs H Q E ⟨x, u, v, rfl, hx, q⟩
    refine ⟨rfl, x, [u, v], rfl, hx, ?_⟩
    refine ⟨u, rfl, v, rfl, hx, by show 2 ≤ sizeLine; decide, ?_⟩
    refine ⟨u, rfl, .ref x, rfl, x, C, rfl, T, nf, .inl ⟨hx, fun dx h1 h2 => ?_⟩⟩
    refine ⟨v, rfl, .ref x, rfl, x, C, rfl, T, ng, .inr ⟨dx, [(f, u)], upd_same, ?_, by show 1 ≤ 900; decide, q dx h1 h2⟩⟩
    rw [upd_ne h2, upd_same]
theorem fn_ini1 {ar : Arg} (FI : IniF P K mg C fI G cc fd) (T : OexC K C) (S : NdefX.NScope [("self" : Str), a, ("__class__" : Str)] [("self" : Str), a] [("__class__" : Str)] G.scope) (hp0 : (G.params.posonlyargs ++ G.params.args).head? = some ar) (har : ar.arg = ("self" : Str))
    (hbody : G.body = [.Expr (.Call (.Attribute (.Call (.Name "super" p1) [] [] p2) "__init__" p3) [.Name a s1] [] p4) p5, .Assign [.Attribute (.Name "self" q1) f q2] (.Name a q3) q4])
    (hks : G.scope.names.lookup ("super" : Str) = some .globalImplicit) (ka : G.scope.names.lookup a = some .local) (kself : G.scope.names.lookup ("self" : Str) = some .local)
    (da : (a == ("__debug__" : Str)) = false) (ca : (a == ("__classdict__" : Str)) = false)
    (nf : findIn K (.ref C) f = some none)
    (hcall : ∀ env : Env, ∃ pl : Sem Bool, eval (.Call (.Attribute (.Call (.Name "super" p1) [] [] p2) "__init__" p3) [.Name a s1] [] p4) env = (do
      let ov ← attributeBase (.Call (.Name "super" p1) [] [] p2) "__init__" env (eval (.Call (.Name "super" p1) [] [] p2) env)
      standAt p3.atName
      let (f, first) ← holding [ov] (getMethod ov "__init__" pl)
      callWith p4 f first (backTo p4 (starEach [.Name a s1] env)) [])) : FnOk P w K mg base CX (k + 1) fI fd [("self" : Str), a] (sp1 K C f) := by
  refine fn_ini (t := tSeq (tOst K f (tVar 0) (tVar 1)) tNext) (ta := tCons (tVar 1) tNil) FI T S hp0 (ps' := [a]) (by rw [har]) hbody hks (fun A outer s H E => ⟨?_, ?_⟩) (fun _ => rfl) (fun _ => rfl) (fun _ => rfl) hcall ?_
  · exact pa_cons (pe_var (i := 1) rfl (.inl ka) da ca) pa_nil rfl
  · exact pss_cons (ps_ost (pe_var (i := 0) rfl (.inl kself)) (pe_var (i := 1) rfl (.inl ka) da ca) rfl) pss_nil
  · rintro vs H Q E ⟨x, u, rfl, hx, q⟩
    refine ⟨rfl, x, [u], rfl, hx, ?_⟩
    refine ⟨u, rfl, hx, by show 1 ≤ sizeLine; decide, ?_⟩
    exact ⟨u, rfl, .ref x, rfl, x, C, rfl, T, nf, .inl ⟨hx, fun dx h1 h2 => q dx h1 h2⟩⟩
end
end
end Qx
namespace Qd
open PySem PySem.Spec L2
/-- a class of exceptions: what is called, with as many arguments as it has fields -/
structure ExK (P : Program) (w : World) (K : PySem.W.Frag) (mg : Str → Option Value) (base : Heap) (cls : Str) (C : Addr) (ps : List Str) (sp : Sp) : Prop where
  ex : ∃ (fI : Addr) (fd : FuncData), PySem.W.findIn K (.ref C) "__init__" = some (some (.ref fI)) ∧ PySem.W.typeIn K (.ref fI) = some (.type "function") ∧ FnOk P w K mg base (L2.CX P w) 1 fI fd ps sp ∧ Binds K fd ps []
  T : OexC K C
  m : mg cls = some (.ref C)
def sRaise (cls : Str) (fs : List Str) (g : SA) : SS := fun ρ ah => (g ρ ah).out ρ fun ds ah1 => if ds.length = fs.length then .ex ⟨cls, (fs.zip ds).reverse⟩ ρ ah1 else .stuck
section
variable {X : Cx} {W : WX} {pos p pos2 : Pos} {cls f1 f2 a b : Str} {e1 e2 : Expr} {g : SA} {C : Addr}
theorem ds_raise2 (hc : X.calm = true) (tk : Takes X W) (Ek : ExK X.prog X.w X.K X.mg X.base cls C [("self" : Str), a, b] (Qx.sp2 X.K C f1 f2)) (hr : Room 3 X.A) (ha : DA X W [e1, e2] g) (hg : Gl X cls := by rfl) (hdb : (cls == ("__debug__" : Str)) = false := by decide)
    (he : starEach [e1, e2] X.env = (false, eval e1 X.env) :: starEach [e2] X.env := by rfl) (hpl : (backTo pos (starEach [e2] X.env)).any (·.1) = false := by rfl) : DS X W (.Raise (some (.Call (.Name cls p) [e1, e2] [] pos)) none pos2) (sRaise cls [f1, f2] g) := by
  obtain ⟨fI, fd, iC, tI, F1, hb⟩ := Ek.ex
  refine ⟨(ps_raise hc tk (pmk_oex (CX := L2.CX X.prog X.w) (dvs := []) (ds := []) Ek.T iC tI F1 (hr.mono (by decide)) hb .nil (fun pins σ H s e s' I c => passes_call (W := W) (E := fun _ _ _ => False) tk (fun _ _ _ _ z => z.elim) pins σ H s e s' I c) hg Ek.m ha.pa hdb he hpl)).weak fun D σ H h => ?_⟩
  obtain ⟨Z, ι, ρ, ah, hH, hE, h⟩ := h
  refine ⟨Z, ι, ρ, ah, hH, hE, (h.out hE).mono fun ds ah1 ι1 H1 x1 hH1 hq vs rvs => ?_⟩
  clear h
  split at hq
  · rename_i hl
    obtain ⟨d1, d2, rfl⟩ : ∃ d1 d2, ds = [d1, d2] := by
      match ds, hl with
      | [d1, d2], _ => exact ⟨d1, d2, rfl⟩
    cases rvs with
    | @cons _ u _ _ r1 rs =>
      cases rs with
      | @cons _ v _ _ r2 rs =>
        cases rs
        refine ⟨by show 2 ≤ 1000; decide, fun a ha => ⟨a, u, v, rfl, upd_same, fun dx h1 h2 => ⟨rfl, dx, [(f2, v), (f1, u)], ?_, upd_same, ?_, ?_⟩⟩⟩
        · rw [upd_ne h2.symm, upd_same]
        · rw [upd_ne h2] at h1; exact h1
        · rw [upd_ne h2] at h1
          have gr2 : ∀ b o, H1 b = some o → upd (del (upd (upd (upd (upd H1 a (exo a C none)) dx (exd dx [(f1, u)])) a (exo a C (some dx))) dx (exd dx [(f2, v), (f1, u)])) a) dx (HO.xd [(f2, v), (f1, u)]) b = some o := fun b o h => by
            have n1 : b ≠ a := ne_of_none h ha
            have n2 : b ≠ dx := ne_of_none h h1
            rw [upd_ne n2, del_ne n1, upd_ne n2, upd_ne n1, upd_ne n2, upd_ne n1]; exact h
          exact hq (.ref C) (some dx) ι1 _ σ (ext_grow gr2) (hH1.grow gr2) (hE.ext (x1.trans (ext_grow gr2))) ⟨C, Ek.m, rfl, [v, u], upd_same, .cons (r2.ext (ext_grow gr2)) (.one (r1.ext (ext_grow gr2)))⟩
  · exact hq.elim
theorem ds_raise1 (hc : X.calm = true) (tk : Takes X W) (Ek : ExK X.prog X.w X.K X.mg X.base cls C [("self" : Str), a] (Qx.sp1 X.K C f1)) (hr : Room 3 X.A) (ha : DA X W [e1] g) (hg : Gl X cls := by rfl) (hdb : (cls == ("__debug__" : Str)) = false := by decide)
    (he : starEach [e1] X.env = (false, eval e1 X.env) :: starEach [] X.env := by rfl) : DS X W (.Raise (some (.Call (.Name cls p) [e1] [] pos)) none pos2) (sRaise cls [f1] g) := by
  obtain ⟨fI, fd, iC, tI, F1, hb⟩ := Ek.ex
  refine ⟨(ps_raise hc tk (pmk_oex (CX := L2.CX X.prog X.w) (dvs := []) (ds := []) Ek.T iC tI F1 (hr.mono (by decide)) hb .nil (fun pins σ H s e s' I c => passes_call (W := W) (E := fun _ _ _ => False) tk (fun _ _ _ _ z => z.elim) pins σ H s e s' I c) hg Ek.m ha.pa hdb he rfl)).weak fun D σ H h => ?_⟩
  obtain ⟨Z, ι, ρ, ah, hH, hE, h⟩ := h
  refine ⟨Z, ι, ρ, ah, hH, hE, (h.out hE).mono fun ds ah1 ι1 H1 x1 hH1 hq vs rvs => ?_⟩
  clear h
  split at hq
  · rename_i hl
    obtain ⟨d1, rfl⟩ : ∃ d1, ds = [d1] := by
      match ds, hl with
      | [d1], _ => exact ⟨d1, rfl⟩
    cases rvs with
    | @cons _ u _ _ r1 rs =>
      cases rs
      refine ⟨by show 1 ≤ 1000; decide, fun a ha => ⟨a, u, rfl, upd_same, fun dx h1 h2 => ⟨rfl, dx, [(f1, u)], upd_same, ?_, ?_, ?_⟩⟩⟩
      · rw [upd_ne h2, upd_same]
      · rw [upd_ne h2] at h1; exact h1
      · rw [upd_ne h2] at h1
        have gr2 : ∀ b o, H1 b = some o → upd (del (upd (upd (upd H1 a (exo a C none)) dx (exd dx [(f1, u)])) a (exo a C (some dx))) a) dx (HO.xd [(f1, u)]) b = some o := fun b o h => by
          have n1 : b ≠ a := ne_of_none h ha
          have n2 : b ≠ dx := ne_of_none h h1
          rw [upd_ne n2, del_ne n1, upd_ne n1, upd_ne n2, upd_ne n1]; exact h
        exact hq (.ref C) (some dx) ι1 _ σ (ext_grow gr2) (hH1.grow gr2) (hE.ext (x1.trans (ext_grow gr2))) ⟨C, Ek.m, rfl, [u], upd_same, .one (r1.ext (ext_grow gr2))⟩
  · exact hq.elim
end
/-- a method of a class of the text -/
def methSt (st : Stmt) (j : Nat) : Stmt := match st with
  | .ClassDef _ _ _ body _ _ _ _ _ _ _ => body.getD j (.Pass ⟨0, 0, 0, 0⟩)
  | _ => .Pass ⟨0, 0, 0, 0⟩
section
variable {P : Program} {K : PySem.W.Frag} {mg : Str → Option Value} {cls : Str} {C fI cda cc : Addr} {st : Stmt} {a b f g qual : Str}
  {nm q : Str} {N : Addr} {bs bm : List Value} {sn : List Str} {sub : List Value} {ab : Bool} {col : Option Bool} {dd : Option Addr} {k0 k1 k2 k3 k5 : Option Value}
  {oc : Value} {od : Option Addr} {dV kV doc pm : Value} {an : Option Addr} {ct : Value} {osl : Array (Option Value)}
  {ccl : Value} {cdd : Option Addr} {vs : Array Value} {ccs : Array (Option Value)} {file : Str} {tf : Tok} {ncl : Value} {ncd : Option Addr} {ncs : Array (Option Value)}
theorem oex_mk (l : K.lookup C = some (excClassObj nm q C N bs bm true sn sub ab col dd k0 k1 k2 k3 k5 "ValueError.__new__")) (hr : PySem.HandSPX.refsVE bm = true) (sa : PySem.W.findIn K (.ref C) "__setattr__" = some (some (.builtin "object.__setattr__")))
    (e1 : PySem.W.subIn K (.ref C) (.type "BaseException") = some true) (e2 : PySem.W.typeIn K (.ref C) = some (.type "type")) (e3 : PySem.W.keepIn K (.ref C) = true) : OexC K C :=
  ⟨⟨nm, q, N, bs, bm, sn, sub, ab, col, dd, k0, k1, k2, k3, k5, l, hr⟩, sa, e1, e2, e3⟩
theorem inif_mk (l : K.lookup fI = some ⟨oc, od, .func (PySem.W.fnX "__init__" qual (defArgs st) (defBody st) (defScope st) [(("__class__" : Str), cc)] dV kV doc pm an (.ref cda) ct), osl⟩) (hc : PySem.W.codeIn K (.ref cda) qual = true)
    (l2 : K.lookup cda = some ⟨ccl, cdd, .fields vs, ccs⟩) (l3 : vs[2]? = some (.str file tf)) (l4 : ((P.main.file : Str) == file) = true) (l5 : K.lookup cc = some ⟨ncl, ncd, .cell (some (.ref C)), ncs⟩) (su : mg "super" = none)
    (top : (P.main.scope.names.lookup ("super" : Str)).isSome = false) (sin : PySem.W.ks_superIn K C C "__init__" = some (some (.builtin "ValueError.__init__"))) (tp : PySem.W.nsIn K cStatics "thirdparty.any" = some none)
    (e1 : PySem.W.subIn K (.ref C) (.type "ValueError") = some true) (e2 : PySem.W.mroIn K C (.ref C) = some true) :
    Qx.IniF P K mg C fI ⟨"__init__", qual, defArgs st, defBody st, defScope st, [(("__class__" : Str), cc)], cda⟩ cc (PySem.W.fnX "__init__" qual (defArgs st) (defBody st) (defScope st) [(("__class__" : Str), cc)] dV kV doc pm an (.ref cda) ct) :=
  ⟨⟨dV, kV, doc, pm, an, ct, oc, od, osl, rfl, l, hc⟩, rfl, ⟨ccl, cdd, vs, ccs, file, tf, l2, l3, l4⟩, ⟨ncl, ncd, ncs, l5⟩, su, top, sin, tp, e1, e2⟩
theorem exk2 {fd : FuncData} {G : NdefX.NF} {p1 p2 p3 p4 p5 q1 q2 q3 q4 r1 r2 r3 r4 s1 s2 : Pos} {ar : Arg} (m : mg cls = some (.ref C)) (T : OexC K C) (FI : Qx.IniF P K mg C fI G cc fd) (i1 : PySem.W.findIn K (.ref C) "__init__" = some (some (.ref fI))) (i2 : PySem.W.typeIn K (.ref fI) = some (.type "function"))
    (hb : Binds K fd [("self" : Str), a, b] []) (S : NdefX.nscB [("self" : Str), a, b, ("__class__" : Str)] [("self" : Str), a, b] [("__class__" : Str)] G.scope = true) (hp0 : (G.params.posonlyargs ++ G.params.args).head? = some ar) (har : ar.arg = ("self" : Str))
    (hbody : G.body = [.Expr (.Call (.Attribute (.Call (.Name "super" p1) [] [] p2) "__init__" p3) [.Name a s1, .Name b s2] [] p4) p5, .Assign [.Attribute (.Name "self" q1) f q2] (.Name a q3) q4, .Assign [.Attribute (.Name "self" r1) g r2] (.Name b r3) r4])
    (hks : G.scope.names.lookup ("super" : Str) = some .globalImplicit)
    (da : (a == ("__debug__" : Str)) = false) (db : (b == ("__debug__" : Str)) = false) (ca : (a == ("__classdict__" : Str)) = false) (cb : (b == ("__classdict__" : Str)) = false)
    (nf : PySem.W.findIn K (.ref C) f = some none) (ng : PySem.W.findIn K (.ref C) g = some none)
    (hcall : ∀ env : Env, ∃ pl : Sem Bool, eval (.Call (.Attribute (.Call (.Name "super" p1) [] [] p2) "__init__" p3) [.Name a s1, .Name b s2] [] p4) env = (do
      let ov ← attributeBase (.Call (.Name "super" p1) [] [] p2) "__init__" env (eval (.Call (.Name "super" p1) [] [] p2) env)
      standAt p3.atName
      let (f, first) ← holding [ov] (getMethod ov "__init__" pl)
      callWith p4 f first (backTo p4 (starEach [.Name a s1, .Name b s2] env)) [])) (w : World) (base : Heap) : ExK P w K mg base cls C [("self" : Str), a, b] (Qx.sp2 K C f g) := by
  have NS := NdefX.nscope_by S
  exact ⟨⟨fI, fd, i1, i2, Qx.fn_ini2 FI T NS hp0 har hbody hks (NS.par a (by simp)) (NS.par b (by simp)) (NS.par _ (by simp)) da db ca cb nf ng hcall, hb⟩, T, m⟩
theorem exk1 {fd : FuncData} {G : NdefX.NF} {p1 p2 p3 p4 p5 q1 q2 q3 q4 s1 : Pos} {ar : Arg} (m : mg cls = some (.ref C)) (T : OexC K C) (FI : Qx.IniF P K mg C fI G cc fd) (i1 : PySem.W.findIn K (.ref C) "__init__" = some (some (.ref fI))) (i2 : PySem.W.typeIn K (.ref fI) = some (.type "function"))
    (hb : Binds K fd [("self" : Str), a] []) (S : NdefX.nscB [("self" : Str), a, ("__class__" : Str)] [("self" : Str), a] [("__class__" : Str)] G.scope = true) (hp0 : (G.params.posonlyargs ++ G.params.args).head? = some ar) (har : ar.arg = ("self" : Str))
    (hbody : G.body = [.Expr (.Call (.Attribute (.Call (.Name "super" p1) [] [] p2) "__init__" p3) [.Name a s1] [] p4) p5, .Assign [.Attribute (.Name "self" q1) f q2] (.Name a q3) q4])
    (hks : G.scope.names.lookup ("super" : Str) = some .globalImplicit) (da : (a == ("__debug__" : Str)) = false) (ca : (a == ("__classdict__" : Str)) = false)
    (nf : PySem.W.findIn K (.ref C) f = some none)
    (hcall : ∀ env : Env, ∃ pl : Sem Bool, eval (.Call (.Attribute (.Call (.Name "super" p1) [] [] p2) "__init__" p3) [.Name a s1] [] p4) env = (do
      let ov ← attributeBase (.Call (.Name "super" p1) [] [] p2) "__init__" env (eval (.Call (.Name "super" p1) [] [] p2) env)
      standAt p3.atName
      let (f, first) ← holding [ov] (getMethod ov "__init__" pl)
      callWith p4 f first (backTo p4 (starEach [.Name a s1] env)) [])) (w : World) (base : Heap) : ExK P w K mg base cls C [("self" : Str), a] (Qx.sp1 K C f) := by
  have NS := NdefX.nscope_by S
  exact ⟨⟨fI, fd, i1, i2, Qx.fn_ini1 FI T NS hp0 har hbody hks (NS.par a (by simp)) (NS.par _ (by simp)) da ca nf hcall, hb⟩, T, m⟩
end
end Qd

set_option Elab.async false
set_option linter.all false
set_option maxRecDepth 100000
set_option maxHeartbeats 2000000
/-! QTry: try with several clauses, with or without a name. -/
namespace Qx
open PySem PySem.Spec PyProof.Rows L2
/-- what a clause wishes at the end of its suite: the name is gone -/
def gone (i : Option Nat) (D : Ends) : Ends := match i with
  | none => D
  | some i => { nx := fun σ' H' => D.nx (σ'.set i none) H', rt := D.rt, bk := fun σ' H' => D.bk (σ'.set i none) H', ct := fun σ' H' => D.ct (σ'.set i none) H' }
def named (i : Option Nat) (a : Addr) (σ : L2.St) : L2.St := match i with
  | none => σ
  | some i => σ.set i (some (.ref a))
def wAll (K : PySem.W.Frag) (Wout : WX) (D : Ends) : List (Value × Option Nat × (Addr → Value → Option Addr → TS)) → WX
  | [] => Wout
  | (c, i, ts) :: r => fun cls d σ H => ∃ b, PySem.W.exmOne K cls c = some b ∧ (b = true → ∀ a, H a = none → ts a cls d (gone i D) (named i a σ) H) ∧ (b = false → wAll K Wout D r cls d σ H)
inductive HdsA (X : Cx) : List ExceptHandler → List (Value × Option Nat × (Addr → Value → Option Addr → TS)) → Prop
  | nil : HdsA X [] []
  | cons {x : Str} {c : Value} {ts : Addr → Value → Option Addr → TS} {b₀ : Stmt} {suite : List Stmt} {np pos' : Pos} {hds : List ExceptHandler} {l : List (Value × Option Nat × (Addr → Value → Option Addr → TS))} (hc : Names X x c)
      (hsu : ∀ (a : Addr) (oe : Obj) (cls : Value) (d : Option Addr) (pn : List (Addr × Obj)), Zc cls d oe → (∃ vs, oe.data = .fields vs) → PSs (X.suite a ((a, oe) :: pn)) (b₀ :: suite) (ts a cls d)) (r : HdsA X hds l) :
      HdsA X (.ExceptHandler (some (.Name x np)) none (b₀ :: suite) pos' :: hds) ((c, none, ts) :: l)
  | consAs {x n : Str} {c : Value} {i : Nat} {ts : Addr → Value → Option Addr → TS} {b₀ : Stmt} {suite : List Stmt} {np pos' : Pos} {hds : List ExceptHandler} {l : List (Value × Option Nat × (Addr → Value → Option Addr → TS))} (hc : Names X x c) (hi : X.N[i]? = some n) (hln : X.env.kindOf n = some .local)
      (hsu : ∀ (a : Addr) (oe : Obj) (cls : Value) (d : Option Addr) (pn : List (Addr × Obj)), Zc cls d oe → (∃ vs, oe.data = .fields vs) → PSs (X.suite a ((a, oe) :: pn)) (b₀ :: suite) (ts a cls d)) (r : HdsA X hds l) :
      HdsA X (.ExceptHandler (some (.Name x np)) (some n) (b₀ :: suite) pos' :: hds) ((c, some i, ts) :: l)
section
variable {X : Cx} {body : List Stmt} {h₀ : ExceptHandler} {hds : List ExceptHandler} {l : List (Value × Option Nat × (Addr → Value → Option Addr → TS))} {pos : Pos} {tb : WX → TS} {Wout : WX}
theorem ps_try_all (hs : X.stack = X.env :: X.outer) (hf : X.env.frame = some X.env.locals) (hN : X.N.Nodup) (tk : Takes X Wout)
    (hb : ∀ (W : WX) (pn : List (Addr × Obj)) (xe : Value → Shared → Prop), Takes (X.tr pn xe) W → PassesOwn (model X.prog X.w) X.A X.env xe → PSs (X.tr pn xe) body (tb W))
    (hh : HdsA X (h₀ :: hds) l) : PS X (.Try body (h₀ :: hds) [] [] pos) (fun D σ H => tb (wAll X.K Wout D l) D σ H) := by
  refine ⟨fun pins s σ H D I h => ?_⟩
  have ok := I.ok
  have hfr : X.A.frames = some (X.env :: X.outer) := by rw [ok.frames, hs]
  refine wpAny_Try_except ?_
  refine wpAny_mono ((hb (wAll X.K Wout D l) (X.pn ++ pins) (fun e s₁ => wpAny (model X.prog X.w) X.A (noteFrame e X.env) (fun _ s₂ => wpAny (model X.prog X.w) X.A (setFlight e none) (fun _ s₃ =>
    wpAny (model X.prog X.w) X.A (handleBy e X.env (h₀ :: hds)) (SP X pins D) X.xe s₃) X.xe s₂) X.xe s₁) (fun u s' xx => ?_) PassesOwn.looking).run [] s σ H D (I.toTry _) h) (fun f s1 hsp => ?_) (fun e s1 he => he)
  · -- the catch
    obtain ⟨a, B, sI, pins', σ', H', cls, d, rfl, J', nb, up, sky, na, os, ag, w⟩ := xx
    have J : Inv X pins σ' H' sI := J'.ofTry ok
    have sky' : Sky B (X.env :: X.outer) a (Zc cls d) X.env.locals s'.heap := by rw [← hs]; exact sky
    show wpAny (model X.prog X.w) X.A (noteFrame (.ref a) X.env) _ _ _
    refine Sky.land Zc.steady hfr hf sky' fun h3 fl3 up3 => ?_
    have J3 : Inv X pins σ' H' { s' with heap := h3 } := J.landed nb fl3.1 (up.trans up3) os ag
    obtain ⟨oe3, vs3, he3, hz3, hd3⟩ := fl3.there
    have notFr : ∀ {h : Heap} {o : Obj} {vs : Array Value}, h.FunFrames B (X.env :: X.outer) → h.get? a = some o → o.data = .fields vs → a ∉ frs (X.env :: X.outer) := fun {h o vs} ff e dd hm => by
      obtain ⟨_, o', e', hnf⟩ := ff.mem hm
      rw [e] at e'; cases e'
      exact hnf _ dd
    have nfr := notFr fl3.2.2.1 he3 hd3
    have nL : a ≠ X.env.locals := fun z => nfr (List.mem_filterMap.mpr ⟨X.env, List.mem_cons_self, by rw [hf, z]⟩)
    have nF : a ∉ X.fs := fun hm => by
      obtain ⟨e, he, q⟩ := List.mem_filterMap.mp hm
      exact nfr (List.mem_filterMap.mpr ⟨e, List.mem_cons_of_mem _ he, q⟩)
    have S3 := J3.suite he3 hd3 na nL nF
    have go : ∀ {hds' : List ExceptHandler} {l' : List (Value × Option Nat × (Addr → Value → Option Addr → TS))}, HdsA X hds' l' → wAll X.K Wout D l' cls d σ' H' →
        wpAny (model X.prog X.w) X.A (handleBy (.ref a) X.env hds') (SP X pins D) X.xe { s' with heap := h3 } := by
      intro hds' l' hk
      induction hk with
      | nil =>
        intro w
        refine wpAny_handleBy_nil ?_
        obtain ⟨k1, k2, k3, oe, vs, T, oT, ts', he, hz, hd, h1, hr⟩ := id fl3
        unfold PySem.passOn
        refine wpAny_bind (wpAny_field he hd h1 ?_)
        rw [if_neg (show ¬ ((Value.ref T == Value.none) = true) from by simp)]
        have fin : wpAny (model X.prog X.w) X.A (setFlight (.ref a) X.env.frame) (fun _ s4 => wpAny (model X.prog X.w) X.A (throw (.ref a) : Sem Flow) (SP X pins D) X.xe s4) X.xe { s' with heap := h3 } := by
          rw [hf]
          refine HandSPX.setFlight_upZ fl3 fun h4 hh4 up4 => wpAny_throw (tk _ _ ?_)
          exact ⟨a, B, sI, pins, σ', H', cls, d, rfl, J, nb, (up.trans up3).trans up4, .inr (.inr (by rw [hs]; exact hh4)), na, os, ag, w⟩
        first
          | exact wpAny_bind (wpAny_pure (wpAny_bind fin))
          | exact wpAny_bind fin
      | @cons x c ts b₀ suite np pos' hds2 l2 hc hsu r ih =>
        intro w
        obtain ⟨b, hb1, hyes, hno⟩ := w
        refine wpAny_handleBy_cons (codeAny_handlers_test ?_) (by intro q; cases q)
        have LT : PySem.W.Looks (model X.prog X.w) h3 (typeOf (.ref a)) cls := fun A Q E s k q => wpAny_typeOf_ref (k _ _ he3) (by rw [hz3.1]; exact q)
        have LM := PySem.W.exm_one (M := model X.prog X.w) (J3.kIn) LT hb1
        have test : ∀ {Q : Value → Shared → Prop} {E : Value → Shared → Prop}, Q c { s' with heap := h3 } → wpAny (model X.prog X.w) (X.A.mark (some (.ref a))) (eval (.Name x np) X.env) Q E { s' with heap := h3 } := fun {Q E} q => by
          obtain ⟨hg, hdbg, hm | ⟨hm, hv, hnn⟩⟩ := hc
          · exact ld_glob (X := X.suite a ((a, oe3) :: (X.pn ++ pins))) S3 hg hm q hdbg
          · exact ld_blt (X := X.suite a ((a, oe3) :: (X.pn ++ pins))) S3 hg hm hv q hnn hdbg
        refine test (LM.here ?_)
        cases b with
        | true =>
          refine codeAny_handlers_suite ?_
          refine HandSPX.lands_againZ fl3 fun h4 fl4 up4 => ?_
          have J4 : Inv X pins σ' H' { s' with heap := h4 } := J.landed nb fl4.1 ((up.trans up3).trans up4) os ag
          obtain ⟨oe4, vs4, he4, hz4, hd4⟩ := fl4.there
          have S4 := J4.suite he4 hd4 na nL nF
          refine wpAny_mono ((hsu a oe4 cls d (X.pn ++ pins) hz4 ⟨_, hd4⟩).run [] _ _ H' _ S4 (hyes rfl a na)) (fun f s6 hsp => ?_) (fun _ _ z => False.elim z)
          cases f with
          | next =>
            obtain ⟨σ6, H6, S6, q6⟩ := hsp
            exact ⟨_, _, S6.unsuite ok, q6⟩
          | brk =>
            obtain ⟨σ6, H6, S6, q6⟩ := hsp
            exact ⟨_, _, S6.unsuite ok, q6⟩
          | cont =>
            obtain ⟨σ6, H6, S6, q6⟩ := hsp
            exact ⟨_, _, S6.unsuite ok, q6⟩
          | ret u =>
            obtain ⟨v6, σ6, H6, S6, r6, q6⟩ := hsp
            exact ⟨_, _, _, S6.unsuite ok, r6, q6⟩
        | false =>
          show wpAny _ X.A (handleBy (.ref a) X.env hds2) _ _ _
          exact ih (hno rfl)
      | @consAs x n c i ts b₀ suite np pos' hds2 l2 hc hi hln hsu r ih =>
        have hloc : Loc X.env.scope n := .inl hln
        intro w
        obtain ⟨b, hb1, hyes, hno⟩ := w
        refine wpAny_handleBy_cons (codeAny_handlers_test ?_) (by intro q; cases q)
        have LT : PySem.W.Looks (model X.prog X.w) h3 (typeOf (.ref a)) cls := fun A Q E s k q => wpAny_typeOf_ref (k _ _ he3) (by rw [hz3.1]; exact q)
        have LM := PySem.W.exm_one (M := model X.prog X.w) (J3.kIn) LT hb1
        have test : ∀ {Q : Value → Shared → Prop} {E : Value → Shared → Prop}, Q c { s' with heap := h3 } → wpAny (model X.prog X.w) (X.A.mark (some (.ref a))) (eval (.Name x np) X.env) Q E { s' with heap := h3 } := fun {Q E} q => by
          obtain ⟨hg, hdbg, hm | ⟨hm, hv, hnn⟩⟩ := hc
          · exact ld_glob (X := X.suite a ((a, oe3) :: (X.pn ++ pins))) S3 hg hm q hdbg
          · exact ld_blt (X := X.suite a ((a, oe3) :: (X.pn ++ pins))) S3 hg hm hv q hnn hdbg
        refine test (LM.here ?_)
        cases b with
        | true =>
          refine codeAny_handlers_suite_as ?_
          refine HandSPX.lands_againZ fl3 fun h4 fl4 up4 => ?_
          have J4 : Inv X pins σ' H' { s' with heap := h4 } := J.landed nb fl4.1 ((up.trans up3).trans up4) os ag
          obtain ⟨oe4, vs4, he4, hz4, hd4⟩ := fl4.there
          have S4 := J4.suite he4 hd4 na nL nF
          refine store_ok (X := X.suite a ((a, oe4) :: (X.pn ++ pins))) (v := .ref a) S4 hN hi hloc rfl (fun s5 S5 => ?_) (.inr hln)
          refine wpAny_mono ((hsu a oe4 cls d (X.pn ++ pins) hz4 ⟨_, hd4⟩).run [] s5 _ H' _ S5 (hyes rfl a na)) (fun f s6 hsp => ?_) (fun _ _ z => False.elim z)
          have end_ : ∀ {σ6 : L2.St} {H6 : Hp} {Q : Shared → Prop}, Inv (X.suite a ((a, oe4) :: (X.pn ++ pins))) [] σ6 H6 s6 → (∀ s7, Inv X pins (σ6.set i none) H6 s7 → Q s7) →
              wpAny (model X.prog X.w) X.A (do bindName X.env n .none; unbindBehindTheSuite X.env n pos') (fun _ s7 => Q s7) X.xe s6 := fun {σ6 H6 Q} S6 hq => gone_ok (S6.unsuite ok) hN hi hln hq
          cases f with
          | next =>
            obtain ⟨σ6, H6, S6, q6⟩ := hsp
            exact end_ S6 fun s7 J7 => ⟨_, _, J7, q6⟩
          | brk =>
            obtain ⟨σ6, H6, S6, q6⟩ := hsp
            exact end_ S6 fun s7 J7 => ⟨_, _, J7, q6⟩
          | cont =>
            obtain ⟨σ6, H6, S6, q6⟩ := hsp
            exact end_ S6 fun s7 J7 => ⟨_, _, J7, q6⟩
          | ret u =>
            obtain ⟨v6, σ6, H6, S6, r6, q6⟩ := hsp
            exact end_ S6 fun s7 J7 => ⟨_, _, _, J7, r6, q6⟩
        | false =>
          show wpAny _ X.A (handleBy (.ref a) X.env hds2) _ _ _
          exact ih (hno rfl)
    exact go hh w
  · cases f with
    | next =>
      obtain ⟨σ', H', J', q⟩ := hsp
      exact wpAny_execs_nil ⟨σ', H', J'.ofTry ok, q⟩
    | brk =>
      obtain ⟨σ', H', J', q⟩ := hsp
      exact ⟨σ', H', J'.ofTry ok, q⟩
    | cont =>
      obtain ⟨σ', H', J', q⟩ := hsp
      exact ⟨σ', H', J'.ofTry ok, q⟩
    | ret u =>
      obtain ⟨v, σ', H', J', r, q⟩ := hsp
      exact ⟨v, σ', H', J'.ofTry ok, r, q⟩
end
end Qx
namespace Qd
open PySem PySem.Spec L2 Qx
theorem RX.ext {S : Sr} {Z ι ι' : List Addr} {H H' : Hp} {ah : List AO} {y : Exn} {cls : Value} {dx : Option Addr} (r : RX S Z ι H y cls dx) (hH : RH S Z ι H ah) (x : Ext ι H ι' H') : RX S Z ι' H' y cls dx := by
  obtain ⟨C, m, rfl, h⟩ := r
  refine ⟨C, m, rfl, ?_⟩
  cases dx with
  | none => exact h
  | some d =>
    obtain ⟨vs, e, rv⟩ := h
    refine ⟨vs, x.keep d _ e rfl fun hd => ?_, rv.ext x⟩
    obtain ⟨n, hn, en⟩ := List.mem_iff_getElem.mp hd
    have hl : n < ah.length := by rw [← hH.len]; exact hn
    have q := hH.at_ n d ah[n] (by rw [List.getElem?_eq_getElem hn, en]) (List.getElem?_eq_getElem hl)
    cases z : ah[n] with
    | lst ds => rw [z] at q; obtain ⟨xs, q, _⟩ := q; rw [e] at q; cases q
    | obj c fs => rw [z] at q; obtain ⟨C, dx, vs, _, q, _⟩ := q; rw [e] at q; cases q
/-- within a clause's suite: a the exception, cls its class, d its dict, i where it is named -/
structure Hn where
  a : Addr
  cls : Value
  d : Option Addr
  i : Option Nat
def Hn.ok (n : Hn) (σ : L2.St) : Prop := ∀ j, n.i = some j → σ[j]? = some (some (.ref n.a))
def tH (S : Sr) (n : Hn) (f : Exn → SE) : TE := fun σ H Q => ∃ Z ι y ρ ah, RH S Z ι H ah ∧ RE S Z ι H ρ σ ∧ RX S Z ι H y n.cls n.d ∧ n.ok σ ∧ ResP S WF Z ι H σ (fun d _ ι' H' => ∀ v, RV S.K Z ι' H' d v → Q v H') (f y ρ ah)
def tHA (S : Sr) (n : Hn) (f : Exn → SA) : TA := fun σ H Q => ∃ Z ι y ρ ah, RH S Z ι H ah ∧ RE S Z ι H ρ σ ∧ RX S Z ι H y n.cls n.d ∧ n.ok σ ∧ ResP S WF Z ι H σ (fun ds _ ι' H' => ∀ vs, RVs S.K Z ι' H' ds vs → Q vs H') (f y ρ ah)
def tHS (S : Sr) (n : Hn) (s : Exn → SS) : TS := fun D σ H => ∃ Z ι y ρ ah, RH S Z ι H ah ∧ RE S Z ι H ρ σ ∧ RX S Z ι H y n.cls n.d ∧ n.ok σ ∧ ResS S WF Z ι H D (s y ρ ah)
/-- the contexts of a clause's suite -/
abbrev Cx.su (X : Cx) (n : Hn) (oe : Obj) (pn : List (Addr × Obj)) : Cx := X.suite n.a ((n.a, oe) :: pn)
structure DEH (X : Cx) (i : Option Nat) (e : Expr) (f : Exn → SE) : Prop where
  pe : ∀ (a : Addr) (cls : Value) (d : Option Addr) (oe : Obj) (pn : List (Addr × Obj)), Zc cls d oe → (∃ vs, oe.data = .fields vs) → PE (X.suite a ((a, oe) :: pn)) e (tH (sr X) ⟨a, cls, d, i⟩ f)
structure DAH (X : Cx) (i : Option Nat) (es : List Expr) (f : Exn → SA) : Prop where
  pa : ∀ (a : Addr) (cls : Value) (d : Option Addr) (oe : Obj) (pn : List (Addr × Obj)), Zc cls d oe → (∃ vs, oe.data = .fields vs) → PA (X.suite a ((a, oe) :: pn)) es (tHA (sr X) ⟨a, cls, d, i⟩ f)
structure DSH (X : Cx) (i : Option Nat) (st : List Stmt) (s : Exn → SS) : Prop where
  pss : ∀ (a : Addr) (cls : Value) (d : Option Addr) (oe : Obj) (pn : List (Addr × Obj)), Zc cls d oe → (∃ vs, oe.data = .fields vs) → PSs (X.suite a ((a, oe) :: pn)) st (tHS (sr X) ⟨a, cls, d, i⟩ s)
section
variable {X : Cx} {W : WX} {pos p pos2 : Pos} {cls x : Str} {e : Expr} {es : List Expr} {f : Exn → SE} {g : Exn → SA} {i : Option Nat} {kk : Nat} {st : List Stmt}
theorem deh_of {f : SE} (h : ∀ (a : Addr) (oe : Obj) (pn : List (Addr × Obj)), DE (X.suite a ((a, oe) :: pn)) WF e f) : DEH X i e (fun _ => f) := by
  refine ⟨fun a cls d oe pn _ _ => ((h a oe pn).pe).weak fun σ H Q q => ?_⟩
  obtain ⟨Z, ι, y, ρ, ah, hH, hE, hx, hi, q⟩ := q
  exact ⟨Z, ι, ρ, ah, hH, hE, q⟩
theorem dsh_of {s : SS} (h : ∀ (a : Addr) (oe : Obj) (pn : List (Addr × Obj)), DSs (X.suite a ((a, oe) :: pn)) WF st s) : DSH X i st (fun _ => s) := by
  refine ⟨fun a cls d oe pn _ _ => ((h a oe pn).pss).weak fun D σ H q => ?_⟩
  obtain ⟨Z, ι, y, ρ, ah, hH, hE, hx, hi, q⟩ := q
  exact ⟨Z, ι, ρ, ah, hH, hE, q⟩
def xF (cls f : Str) : Exn → SE := fun y _ ah => if y.cls = cls then (match y.fs.lookup f with
  | some d => .ok d ah
  | none => .stuck) else .stuck
theorem lookup_zip_run {K Z ι H} {f : Str} : ∀ {fs : List (Str × D)} {vs : List V} {d : D}, RVs K Z ι H (fs.map (·.2)) vs → fs.lookup f = some d → ∃ v, ((fs.map (·.1)).zip vs).lookup f = some v ∧ RV K Z ι H d v
  | [], _, d, _, e => by simp at e
  | (g, d0) :: fs, _, d, h, e => by
    cases h with
    | @cons _ v _ vs r rs =>
      simp only [List.lookup] at e
      simp only [List.map_cons, List.zip_cons_cons, List.lookup]
      split at e
      · rename_i q
        cases e
        exact ⟨v, by simp, r⟩
      · rename_i q
        obtain ⟨w, e', r'⟩ := lookup_zip_run rs e
        exact ⟨w, by simp [e'], r'⟩
theorem deh_field {n f : Str} {j : Nat} (hT : ∃ C, X.mg cls = some (.ref C) ∧ XfC X.K C ∧ PySem.W.findIn X.K (.ref C) f = some none) (hN : X.N[j]? = some n := by rfl) (hv : Vis X.env.scope n := by first | exact Or.inl rfl | exact Or.inr (Or.inl rfl) | exact Or.inr (Or.inr rfl)) (hd : (n == ("__debug__" : Str)) = false := by decide)
    (hcd : (n == ("__classdict__" : Str)) = false := by decide) (hb : attributeBase (.Name n p) f X.env (eval (.Name n p) X.env) = eval (.Name n p) X.env := by rfl) : DEH X (some j) (.Attribute (.Name n p) f pos) (xF cls f) := by
  obtain ⟨C, hm, T, hno⟩ := hT
  refine ⟨fun a cls' d oe pn hz hf => (pe_xf (C := C) T hno hz hf (pe_var (X := X.suite a ((a, oe) :: pn)) (i := j) hN hv hd hcd) hb).weak fun σ H Q q => ?_⟩
  obtain ⟨Z, ι, y, ρ, ah, hH, hE, hx, hi, q⟩ := q
  refine ⟨.ref a, hi j rfl, ?_⟩
  unfold xF at q
  split at q
  · rename_i ec
    split at q
    · rename_i dv el
      obtain ⟨C', m', e', h'⟩ := hx
      have m' : X.mg y.cls = some (.ref C') := m'
      have e2 : C' = C := by rw [ec] at m'; rw [hm] at m'; cases m'; rfl
      subst e2
      have e' : cls' = .ref C' := e'
      refine ⟨rfl, e', ?_⟩
      cases d with
      | none => have h' : y.fs = [] := h'; rw [h'] at el; cases el
      | some dd =>
        obtain ⟨vs, e1, rv⟩ := h'
        obtain ⟨v, l, r⟩ := lookup_zip_run rv el
        exact ⟨dd, _, v, rfl, e1, l, q.now hH v r⟩
    · exact q.elim
  · exact q.elim
theorem dah_nil : DAH X i [] (fun _ => aNil) := by
  refine ⟨fun a cls d oe pn _ _ => (da_nil (X := X.suite a ((a, oe) :: pn)) (W := WF)).pa.weak fun σ H Q q => ?_⟩
  obtain ⟨Z, ι, y, ρ, ah, hH, hE, hx, hi, q⟩ := q
  exact ⟨Z, ι, ρ, ah, hH, hE, q⟩
theorem dah_cons (h1 : DEH X i e f) (h2 : DAH X i es g) (hs : starEach (e :: es) X.env = (false, eval e X.env) :: starEach es X.env := by rfl) : DAH X i (e :: es) (fun y => aCons (f y) (g y)) := by
  refine ⟨fun a cls d oe pn hz hf => (pa_cons (h1.pe a cls d oe pn hz hf) (h2.pa a cls d oe pn hz hf) hs).weak fun σ H Q q => ?_⟩
  obtain ⟨Z, ι, y, ρ, ah, hH, hE, hx, hi, q⟩ := q
  refine ⟨Z, ι, y, ρ, ah, hH, hE, hx, hi, q.bind.mono fun d1 ah1 ι1 H1 x1 hH1 q v rv => ?_⟩
  refine ⟨Z, ι1, y, ρ, ah1, hH1, hE.ext x1, hx.ext hH x1, hi, q.bind.mono fun ds ah2 ι2 H2 x2 hH2 q vs rvs => ?_⟩
  exact q.now hH2 _ (.cons (rv.ext x2) rvs)
theorem deh_tup (h : DAH X i es g) : DEH X i (.Tuple es kk pos) (fun y => cTup (g y)) := by
  refine ⟨fun a cls d oe pn hz hf => (pe_tup (h.pa a cls d oe pn hz hf)).weak fun σ H Q q => ?_⟩
  obtain ⟨Z, ι, y, ρ, ah, hH, hE, hx, hi, q⟩ := q
  refine ⟨Z, ι, y, ρ, ah, hH, hE, hx, hi, q.bind.mono fun ds ah1 ι1 H1 x1 hH1 h vs rvs => ?_⟩
  have e := rvs.length
  by_cases hl : ds.length ≤ sizeLine
  · rw [if_pos hl] at h
    exact ⟨by omega, fun p hp => h ι1 _ (ext_new hp) (hH1.new hp) _ (rv_tup hH1 hp rvs (by omega))⟩
  · rw [if_neg hl] at h; exact h.elim
theorem dsh_ret (h : DEH X i e f) : DSH X i [.Return (some e) pos] (fun y => sRet (f y)) := by
  refine ⟨fun a cls d oe pn hz hf => (pss_one (ps_ret (h.pe a cls d oe pn hz hf))).weak fun D σ H q => ?_⟩
  obtain ⟨Z, ι, y, ρ, ah, hH, hE, hx, hi, q⟩ := q
  refine ⟨Z, ι, y, ρ, ah, hH, hE, hx, hi, (q.out hE).mono fun d1 ah1 ι1 H1 x1 hH1 q v rv => ?_⟩
  exact q ι1 H1 v .refl hH1 rv
/-! ### the statement -/
def unset (i : Option Nat) (ρ : Rho) : Rho := match i with
  | none => ρ
  | some i => ρ.set i none
def outUnset (i : Option Nat) : Out → Out
  | .nx ρ ah => .nx (unset i ρ) ah
  | .bk ρ ah => .bk (unset i ρ) ah
  | .ct ρ ah => .ct (unset i ρ) ah
  | .ex _ _ _ => .stuck
  | o => o
def okSlot (i : Option Nat) (ρ : Rho) : Bool := match i with
  | none => true
  | some i => decide (i < ρ.length)
abbrev Clause := List (Str × Bool) × Option Nat × (Exn → SS)
def catchA : List Clause → Exn → Rho → List AO → Out
  | [], y, ρ, ah => .ex y ρ ah
  | (ms, i, s) :: r, y, ρ, ah => match ms.lookup y.cls with
    | some true => if okSlot i ρ = true then outUnset i (s y (unset i ρ) ah) else .stuck
    | some false => catchA r y ρ ah
    | none => .stuck
def sTry (b : SS) (hs : List Clause) : SS := fun ρ ah => match b ρ ah with
  | .ex y ρ1 ah1 => catchA hs y ρ1 ah1
  | o => o
inductive DHs (X : Cx) : List ExceptHandler → List Clause → List (Value × Option Nat × (Addr → Value → Option Addr → TS)) → Prop
  | nil : DHs X [] [] []
  | cons {x : Str} {c : Value} {s : Exn → SS} {b₀ : Stmt} {suite : List Stmt} {np pos' : Pos} {hds : List ExceptHandler} {l : List Clause} {l' : List (Value × Option Nat × (Addr → Value → Option Addr → TS))} {ms : List (Str × Bool)} (hc : Names X x c)
      (hm : ∀ y b, ms.lookup y = some b → ∃ C, X.mg y = some (.ref C) ∧ PySem.W.exmOne X.K (.ref C) c = some b) (hs : DSH X none (b₀ :: suite) s) (r : DHs X hds l l') :
      DHs X (.ExceptHandler (some (.Name x np)) none (b₀ :: suite) pos' :: hds) ((ms, none, s) :: l) ((c, none, fun a cls d => tHS (sr X) ⟨a, cls, d, none⟩ s) :: l')
  | consAs {x n : Str} {c : Value} {i : Nat} {s : Exn → SS} {b₀ : Stmt} {suite : List Stmt} {np pos' : Pos} {hds : List ExceptHandler} {l : List Clause} {l' : List (Value × Option Nat × (Addr → Value → Option Addr → TS))} {ms : List (Str × Bool)} (hc : Names X x c) (hi : X.N[i]? = some n) (hln : X.env.kindOf n = some .local)
      (hm : ∀ y b, ms.lookup y = some b → ∃ C, X.mg y = some (.ref C) ∧ PySem.W.exmOne X.K (.ref C) c = some b) (hs : DSH X (some i) (b₀ :: suite) s) (r : DHs X hds l l') :
      DHs X (.ExceptHandler (some (.Name x np)) (some n) (b₀ :: suite) pos' :: hds) ((ms, some i, s) :: l) ((c, some i, fun a cls d => tHS (sr X) ⟨a, cls, d, some i⟩ s) :: l')
theorem DHs.hds {X : Cx} : ∀ {hds : List ExceptHandler} {l : List Clause} {l' : List (Value × Option Nat × (Addr → Value → Option Addr → TS))}, DHs X hds l l' → HdsA X hds l'
  | _, _, _, .nil => .nil
  | _, _, _, .cons hc hm hs r => .cons hc (fun a oe cls d pn hz hf => hs.pss a cls d oe pn hz hf) r.hds
  | _, _, _, .consAs hc hi hln hm hs r => .consAs hc hi hln (fun a oe cls d pn hz hf => hs.pss a cls d oe pn hz hf) r.hds
theorem gone_ok {S : Sr} {Z ι : List Addr} {H : Hp} {D : Ends} {W : WX} {i : Option Nat} {o : Out} (h : ResS S W Z ι H D (outUnset i o)) : ResS S WF Z ι H (gone i D) o := by
  cases i with
  | none =>
    cases o with
    | ex x ρ ah => exact h.elim
    | nx ρ ah => exact h
    | rt d ah => exact h
    | bk ρ ah => exact h
    | ct ρ ah => exact h
    | stuck => exact h
  | some i =>
    cases o with
    | ex x ρ ah => exact h.elim
    | nx ρ ah => exact fun ι' H' σ' x r e => h ι' H' _ x r (e.unset i)
    | rt d ah => exact h
    | bk ρ ah => exact fun ι' H' σ' x r e => h ι' H' _ x r (e.unset i)
    | ct ρ ah => exact fun ι' H' σ' x r e => h ι' H' _ x r (e.unset i)
    | stuck => exact h
theorem RE.setAny {S : Sr} {Z ι : List Addr} {H : Hp} {ρ : Rho} {σ : L2.St} (h : RE S Z ι H ρ σ) (i : Nat) (v : Option V) : RE S Z ι H (ρ.set i none) (σ.set i v) := by
  refine ⟨by simp [h.len], fun j e q => ?_⟩
  by_cases hi : i = j
  · subst hi
    have hl : i < ρ.length := by
      have := (List.getElem?_eq_some_iff.mp q).1
      simpa using this
    rw [List.getElem?_set_self hl] at q
    cases q
  · rw [List.getElem?_set_ne hi] at q
    rw [List.getElem?_set_ne hi]
    exact h.at_ j e q
theorem catch_run {X : Cx} {W : WX} {Z ι : List Addr} {H : Hp} {D : Ends} : ∀ {hds : List ExceptHandler} {l : List Clause} {l' : List (Value × Option Nat × (Addr → Value → Option Addr → TS))}, DHs X hds l l' → ∀ {y : Exn} {ρ : Rho} {ah : List AO}, ResS (sr X) W Z ι H D (catchA l y ρ ah) →
    ∀ cls dx ι' H' σ', Ext ι H ι' H' → RH (sr X) Z ι' H' ah → RE (sr X) Z ι' H' ρ σ' → RX (sr X) Z ι' H' y cls dx → wAll X.K W D l' cls dx σ' H'
  | _, _, _, .nil, y, ρ, ah, h => h
  | _, _, _, .cons (ms := ms) (s := s) hc hm hs r, y, ρ, ah, h => by
    intro cls dx ι' H' σ' x hH hE hx
    unfold catchA at h
    cases e : ms.lookup y.cls with
    | none => rw [e] at h; exact h.elim
    | some b =>
      rw [e] at h
      obtain ⟨C, m1, m2⟩ := hm _ _ e
      obtain ⟨C', m', rfl, _⟩ := id hx
      have m' : X.mg y.cls = some (.ref C') := m'
      rw [m1] at m'; cases m'
      refine ⟨b, m2, fun hb a ha => ?_, fun hb => ?_⟩
      · subst hb
        have h : ResS (sr X) W Z ι H D (outUnset none (s y ρ ah)) := by simpa [okSlot, unset] using h
        exact ⟨Z, ι', y, ρ, ah, hH, hE, hx, fun j z => (by cases z), (gone_ok h).ext x⟩
      · subst hb
        exact catch_run r h _ dx ι' H' σ' x hH hE hx
  | _, _, _, .consAs (ms := ms) (s := s) (i := i) hc hi hln hm hs r, y, ρ, ah, h => by
    intro cls dx ι' H' σ' x hH hE hx
    unfold catchA at h
    cases e : ms.lookup y.cls with
    | none => rw [e] at h; exact h.elim
    | some b =>
      rw [e] at h
      obtain ⟨C, m1, m2⟩ := hm _ _ e
      obtain ⟨C', m', rfl, _⟩ := id hx
      have m' : X.mg y.cls = some (.ref C') := m'
      rw [m1] at m'; cases m'
      refine ⟨b, m2, fun hb a ha => ?_, fun hb => ?_⟩
      · subst hb
        simp only [okSlot, decide_eq_true_eq] at h
        split at h
        · rename_i hl
          have h : ResS (sr X) W Z ι H D (outUnset (some i) (s y (ρ.set i none) ah)) := h
          refine ⟨Z, ι', y, ρ.set i none, ah, hH, hE.setAny i _, hx, fun j z => ?_, (gone_ok h).ext x⟩
          have z : some i = some j := z
          cases z
          show (σ'.set i (some (.ref a)))[i]? = _
          rw [List.getElem?_set_self (by rw [← hE.len]; exact hl)]
        · exact h.elim
      · subst hb
        exact catch_run r h _ dx ι' H' σ' x hH hE hx
theorem ds_try {X : Cx} {W : WX} {body : List Stmt} {h₀ : ExceptHandler} {hds : List ExceptHandler} {l : List Clause} {l' : List (Value × Option Nat × (Addr → Value → Option Addr → TS))} {b : SS} {pos : Pos} (hs : X.stack = X.env :: X.outer) (hf : X.env.frame = some X.env.locals) (hN : X.N.Nodup) (tk : Takes X W)
    (hb : ∀ (W' : WX) (pn : List (Addr × Obj)) (xe : Value → Shared → Prop), Takes (X.tr pn xe) W' → PassesOwn (model X.prog X.w) X.A X.env xe → DSs (X.tr pn xe) W' body b) (hh : DHs X (h₀ :: hds) l l') : DS X W (.Try body (h₀ :: hds) [] [] pos) (sTry b l) := by
  refine ⟨(ps_try_all (tb := fun W' => tOfS (sr X) W' b) hs hf hN tk (fun W' pn xe t p => (hb W' pn xe t p).pss) hh.hds).weak fun D σ H h => ?_⟩
  obtain ⟨Z, ι, ρ, ah, hH, hE, h⟩ := h
  refine ⟨Z, ι, ρ, ah, hH, hE, ?_⟩
  unfold sTry at h
  cases e : b ρ ah with
  | ex y ρ1 ah1 => rw [e] at h; exact catch_run hh h
  | nx ρ1 ah1 => rw [e] at h; exact h
  | rt d ah1 => rw [e] at h; exact h
  | bk ρ1 ah1 => rw [e] at h; exact h
  | ct ρ1 ah1 => rw [e] at h; exact h
  | stuck => rw [e] at h; exact h
end
/-- a clause's classes, one by one -/
def MsOk (K : PySem.W.Frag) (mg : Str → Option Value) (c : Value) (ms : List (Str × Bool)) : Prop := ∀ y b, ms.lookup y = some b → ∃ C, mg y = some (.ref C) ∧ PySem.W.exmOne K (.ref C) c = some b
theorem ms_nil {K : PySem.W.Frag} {mg : Str → Option Value} {c : Value} : MsOk K mg c [] := fun y b h => by cases h
theorem ms_cons {K : PySem.W.Frag} {mg : Str → Option Value} {c : Value} {n : Str} {b0 : Bool} {ms : List (Str × Bool)} {C : Addr} (h1 : mg n = some (.ref C)) (h2 : PySem.W.exmOne K (.ref C) c = some b0) (r : MsOk K mg c ms) : MsOk K mg c ((n, b0) :: ms) := fun y b h => by
  simp only [List.lookup] at h
  split at h
  · rename_i q
    cases h
    have : y = n := by simpa using q
    subst this
    exact ⟨C, h1, h2⟩
  · exact r y b h
end Qd

set_option Elab.async false
set_option linter.all false
set_option maxRecDepth 100000
set_option maxHeartbeats 2000000
/-! QTr: a value's truth as a test. -/
namespace Qd
open PySem PySem.Spec L2
def tru (ah : List AO) (d : D) : Option Bool := match look ah d with
  | .non => some false
  | .bl b => some b
  | .int i => some (i != 0)
  | .str x => if x.length ≤ sizeLine then some ((x.length : Int) != 0) else none
  | .lst ds => some (!ds.isEmpty)
  | .tup ds => some (!ds.isEmpty)
  | _ => none
def cTr (f : SE) : SE := fun ρ ah => (f ρ ah).bind fun d ah1 => match tru ah1 d with
  | some b => .ok (.bl b) ah1
  | none => .stuck
theorem RVs.isEmpty {K Z ι H} {ds : List D} {vs : List V} (r : RVs K Z ι H ds vs) : ds.isEmpty = vs.isEmpty := by
  cases r <;> rfl
theorem look_bl {ah : List AO} {K : PySem.W.Frag} {Z ι : List Addr} {H : Hp} {d : D} {v : V} {b : Bool} (r : RV K Z ι H d v) (e : look ah d = .bl b) : v = .bl b := by
  cases d with
  | bl i => cases e; cases r; rfl
  | ref n => simp only [look] at e; split at e <;> cases e
  | _ => cases e
theorem look_non {ah : List AO} {K : PySem.W.Frag} {Z ι : List Addr} {H : Hp} {d : D} {v : V} (r : RV K Z ι H d v) (e : look ah d = .non) : v = .non := by
  cases d with
  | non => cases r; rfl
  | ref n => simp only [look] at e; split at e <;> cases e
  | _ => cases e
theorem tru_run {S : Sr} {Z ι : List Addr} {H : Hp} {ah : List AO} {d : D} {v : V} {b : Bool} (hH : RH S Z ι H ah) (r : RV S.K Z ι H d v) (e : tru ah d = some b) : TruV S.K v H b := by
  unfold tru at e
  split at e
  · rename_i q; cases e; rw [look_non r q]; exact rfl
  · rename_i q; cases e; rw [look_bl r q]; exact rfl
  · rename_i q; cases e; rw [look_int r q]; exact rfl
  · rename_i q
    split at e
    · rename_i hl; cases e; rw [(look_str r q).1]; exact ⟨hl, rfl⟩
    · cases e
  · rename_i ds q
    cases e
    obtain ⟨a, xs, rfl, f, _, rs⟩ := look_lst hH r q
    exact Or.inl ⟨xs, f, by rw [rs.isEmpty]⟩
  · rename_i ds q
    cases e
    obtain ⟨a, xs, rfl, _, f, _, rs⟩ := look_tup r q
    exact Or.inr (Or.inl ⟨xs, f.sq, by rw [rs.isEmpty]⟩)
  · cases e
section
variable {X : Cx} {W : WX} {e : Expr} {f : SE}
theorem dt_tr (h : DE X W e f) (he : ∀ whole, isTrue e X.env whole = (do let v ← whole; standAt e.pos; holding [v] (truthy v)) := by intro _; rfl) : DT X W e (cTr f) := by
  refine ⟨(pt_truth h.pe he).weak fun σ H Q q => ?_⟩
  obtain ⟨Z, ι, ρ, ah, hH, hE, q⟩ := q
  refine ⟨Z, ι, ρ, ah, hH, hE, q.bind.mono fun d ah1 ι1 H1 x1 hH1 q v rv => ?_⟩
  cases et : tru ah1 d with
  | none => rw [et] at q; exact q.elim
  | some b =>
    rw [et] at q
    obtain ⟨b', eb, q2⟩ := q.now hH1
    cases eb
    exact ⟨b, tru_run hH1 rv et, q2⟩
end
end Qd

set_option Elab.async false
set_option linter.all false
set_option maxRecDepth 100000
set_option maxHeartbeats 2000000
/-! QAct: a lambda handed to a def that tells what it returns or raises. -/
namespace Qd
open PySem PySem.Spec PyProof.Rows L2 Qx LamX
/-- g(lambda: e): s is g's body, read with its call as it stands; n its slots -/
def cLam (n : Nat) (s : SE → SS) (f : SE) : SE := fun ρ ah => match s (fun _ ah1 => f ρ ah1) (List.replicate n none) ah with
  | .rt d ah1 => .ok d ah1
  | .nx _ ah1 => .ok .non ah1
  | _ => .stuck
/-- each table's code objects bear one name -/
def TU (K : PySem.W.Frag) : Prop := ∀ p ∈ tabsL K, ∀ p' ∈ tabsL K, p.1 = p'.1 → p.2 = p'.2
def nowhere : WX := fun _ _ _ _ => False
theorem takes_len {X : Cx} {W : WX} (tk : Takes X W) : Takes X (fun cls d σ H => σ.length = X.N.length → W cls d σ H) := fun u s' ⟨a, B, sI, pins, σ, H, cls, d, e, I, nb, up, sky, na, os, ag, w⟩ =>
  tk u s' ⟨a, B, sI, pins, σ, H, cls, d, e, I, nb, up, sky, na, os, ag, w I.len⟩
theorem lam_takes {X : Cx} {A : Around} {outer : List Env} {s : Shared} {H : Hp} {E : XK} {scope : Scope} {f c' : Addr} : Takes (lamCx X A outer s H E scope f c') (wxE E) := takes_of rfl rfl rfl rfl
theorem ext_tab {ι : List Addr} {H H1 : Hp} (x : ExtN H H1) : Ext ι H ι H1 := ⟨List.prefix_refl _, fun a o h hb _ => x a o h (fun ps e => by rw [e] at hb; cases hb), fun _ h => .inl h⟩
theorem rh_tab {S : Sr} {Z ι : List Addr} {H H1 : Hp} {ah : List AO} (h : RH S Z ι H ah) (x : ExtN H H1) (t : Tb S.K H1) : RH S Z ι H1 ah := by
  have k : ∀ {a u}, H a = some u → NT u → H1 a = some u := fun {a u} e nt => x a u e (fun ps q => by rw [q] at nt; exact nt)
  refine ⟨h.nd, h.len, fun n a u h1 h2 => ?_, fun a ha => ?_, t⟩
  · have r := h.at_ n a u h1 h2
    obtain ⟨w, e, nt⟩ := r.trN
    exact r.ext (ext_tab x) ((k e nt).trans e.symm)
  · obtain ⟨z, u, e, nt⟩ := h.z a ha
    exact ⟨z, u, k e nt, nt⟩
theorem re_none {S : Sr} {Z ι : List Addr} {H : Hp} {n : Nat} {σ : L2.St} (h : σ.length = n) : RE S Z ι H (List.replicate n none) σ := by
  refine ⟨by simp [h], fun i d e => ?_⟩
  rw [List.getElem?_replicate] at e
  split at e <;> cases e
/-- what the def's caught exceptions wish -/
def hWish (S : Sr) (n : Nat) (l : List Clause) (D0 : Ends) (Ech : XK) : Prop := ∀ cls d H', Ech cls d H' → ∃ Z ι y ah, RH S Z ι H' ah ∧ RX S Z ι H' y cls d ∧ ResS S nowhere Z ι H' D0 (catchA l y (List.replicate n none) ah)
abbrev dEnd (Q : VK) : Ends := { nx := fun _ H' => Q .non H', rt := Q }
section
variable {X : Cx} {W : WX} {x a told : Str} {g c P : Addr} {k n j kk : Nat} {stg : Stmt} {fdg : FuncData} {Ng : List Str} {params : Arguments} {body : Expr} {scope : Scope} {f : SE} {h₀ : ExceptHandler} {hds : List ExceptHandler} {l : List Clause}
  {p lpos pos p1 p2 p3 p4 p5 p6 : Pos} {x0 : Str}
/-- the def's context -/
abbrev cxA (X : Cx) (Ng : List Str) (x : Str) (stg : Stmt) (g : Addr) (cdg : Value) (s : Shared) (H : Hp) : Cx := (cxOf C8.CX0 X.prog X.w X.K X.mg X.base Ng x (defScope stg) g cdg X.A X.stack s H C8.E0).nox
/-- try: return ("told", a()) except ..: .. -/
def TTt (S : Sr) (n : Nat) (l : List Clause) (told : Str) : (XK → Hp → VK → Prop) → Hp → VK → Prop := fun tl H Q =>
  ∃ Ech : XK, tl Ech H (fun v H1 => 2 ≤ sizeLine ∧ ∀ p, H1 p = none → Q (.ref p) (upd H1 p (.tup [.str told, v]))) ∧ hWish S n l (dEnd Q) Ech
theorem gives_t {cdg : Value} {q : Str} (hN : Ng.Nodup) (hn : n = Ng.length) (hb : defBody stg = [.Try [.Return (some (.Tuple [.Constant (.str told) j p5, .Call (.Name a p1) [] [] p2] kk p6)) p3] (h₀ :: hds) [] [] p4]) (h0 : Ng[0]? = some a)
    (hh : ∀ s H, ∃ l', DHs (cxA X Ng x stg g cdg s H) (h₀ :: hds) l l') : GivesTo X Ng x (defScope stg) g cdg (defBody stg) a q (TTt (sr X) n l told) := by
  intro f c' s H Q tl act hc h
  obtain ⟨l', hl⟩ := hh s H
  obtain ⟨Ech, ht, hw⟩ := h
  rw [hb]
  refine ⟨_, pss_one (ps_try_all (X := cxA X Ng x stg g cdg s H) (Wout := nowhere)
      (tb := fun W D σ H => ∃ Ech : XK, (∀ cls d σ' H', σ'.length = Ng.length → Ech cls d H' → W cls d σ' H') ∧ σ[0]? = some (some (.ref f)) ∧ H c' = some (CodeO c' q) ∧ tl Ech H (fun v H1 => 2 ≤ sizeLine ∧ ∀ p, H1 p = none → D.rt (.ref p) (upd H1 p (.tup [.str told, v]))))
      rfl rfl hN L2.takes0 (fun W pn xe tk _ => ?_) hl.hds), ?_⟩
  · refine ⟨fun pins s' σ H' D I h' => ?_⟩
    obtain ⟨E1, hW, h1, h2, h3⟩ := h'
    have hp := act _ pn xe E1 p1 p2 (takes_len tk) (fun cls d σ' H' he hl => hW cls d σ' H' hl he)
    have hq := pss_one (ps_ret (pos := p3) (pe_tup (x1 := kk) (pos := p6) (pa_cons (pe_str (x := told) (j := j) (pos := p5)) (pa_cons hp pa_nil))))
    exact hq.run pins s' σ H' D I ⟨h1, h2, h3⟩
  · refine ⟨Ech, fun cls d σ' H' hl' he => ?_, ?_, hc, ht⟩
    · obtain ⟨Z, ι, y, ah, r, rx, hr⟩ := hw cls d H' he
      exact catch_run hl hr cls d ι H' σ' .refl r (re_none (by rw [hl', hn])) rx
    · show (L2.start Ng [V.ref f])[0]? = _
      rfl
theorem lam_caught {S : Sr} {W : WX} {Z ι ι' : List Addr} {H H' : Hp} {σ : L2.St} {Q : VK} {o : Out}
    (q : ResP S W Z ι H σ (fun d _ ι' H' => ∀ v, RV S.K Z ι' H' d v → Q v H') (match o with | .rt d ah1 => R.ok d ah1 | .nx _ ah1 => .ok .non ah1 | _ => .stuck)) (x : Ext ι H ι' H') : ResS S nowhere Z ι' H' (dEnd Q) o := by
  cases o with
  | rt d ah => exact fun ι2 H2 v x3 r3 rv => q ι2 H2 (x.trans x3) r3 v rv
  | nx ρ ah => exact fun ι2 H2 σ' x3 r3 _ => q ι2 H2 (x.trans x3) r3 .non .non
  | bk ρ ah => exact q.elim
  | ct ρ ah => exact q.elim
  | ex y ρ ah => exact q.elim
  | stuck => exact q.elim
theorem de_lamT (F : Fun X.K x x stg g fdg) (hm : X.mg x = some (.ref g)) (hbd : Binds X.K fdg [a] []) (Sg : FnScope Ng [a] (defScope stg)) (hn : n = Ng.length)
    (hb : defBody stg = [.Try [.Return (some (.Tuple [.Constant (.str told) j p5, .Call (.Name a p1) [] [] p2] kk p6)) p3] (h₀ :: hds) [] [] p4])
    (hh : ∀ cdg s H, ∃ l', DHs (cxA X Ng x stg g cdg s H) (h₀ :: hds) l l')
    (hts : PyData.strOk told = true) (hx0 : x0 ∈ lamNames) (ht : PySem.W.tabIn X.K x0 = some (c, P)) (hcode : X.env.code = .ref c) (TBb : TbB X.K X.base X.mg) (hu : TU X.K) (hr : Room (k + 2) X.A)
    (hbody : ∀ (A : Around) (outer : List Env) (s : Shared) (H : Hp) (E : XK) (f' c' : Addr), Room k (A.deeper (lamEnv X scope s.heap.objs.size f' c')) → DE (lamCx X A outer s H E scope f' c') (wxE E) body f)
    (L : LamS X.env.scope scope) (hq : x0 ++ (".<locals>.<lambda>" : Str) = X.env.qual ++ ("<lambda>" : Str) := by rfl) (h0 : Ng[0]? = some a := by rfl) (hva : Vis (defScope stg) a := by exact Or.inl rfl) (hg : Gl X x := by rfl)
    (hdef : defaultsOf params X.env = ([], []) := by rfl) (hbind : ∀ (q : Str) (cl : List (Str × Addr)) (pm cv ctv : Value), bindArgs (PySem.W.kla_fn "<lambda>" q params body scope cl pm cv ctv) ⟨[], []⟩ = pure [] := by intros; rfl)
    (hdb : (x == ("__debug__" : Str)) = false := by decide) (hd : (a == ("__debug__" : Str)) = false := by decide) (hcd : (a == ("__classdict__" : Str)) = false := by decide) :
    DE X W (.Call (.Name x p) [.Lambda params body scope lpos] [] pos) (cLam n (fun act => sTry (sRet (cTup (aCons (cC (.str told)) (aCons act aNil)))) l) f) := by
  obtain ⟨oc, od, kV, doc, pm, an, cdv, ct, osl, rfl, lk, hcg⟩ := F.ex
  have hmT : (P, X.env.qual ++ ("<lambda>" : Str)) ∈ tabsL X.K := List.mem_filterMap.mpr ⟨x0, hx0, by rw [ht, ← hq]; rfl⟩
  refine ⟨(pe_lamcall (T := tabsL X.K) (TT := TTt (sr X) n l told) (a := a) (t := fun E => tOf (sr X) (wxE E) f) (k := k) (c := c) (P := P) hg hm F.kp lk hcg hbd Sg h0 hva (gives_t Sg.nd hn hb h0 (hh cdv)) (TBb x0 hx0 c P ht) hcode hmT (fun p' hp' e => hu p' hp' _ hmT e) hr L hdef hbind (fun A outer s H E f' c' hr' => (hbody A outer s H E f' c' hr').pe) hdb hd hcd).weak fun σ H Q q => ?_⟩
  obtain ⟨Z, ι, ρ, ah, hH, hE, q⟩ := q
  refine ⟨hH.tb, fun H1 eN T1 => ?_⟩
  have hH1 : RH (sr X) Z ι H1 ah := rh_tab hH eN T1
  have x1 : Ext ι H ι H1 := ext_tab eN
  have hE1 := hE.ext x1
  unfold cLam sTry sRet at q
  cases e : f ρ ah with
  | stuck => simp only [cTup, aCons, aNil, cC, R.bind_ok, e, R.bind_stuck, R.out_stuck] at q; exact q.elim
  | ok d ah1 =>
    refine ⟨fun _ _ _ => False, ⟨Z, ι, ρ, ah, hH1, hE1, ?_⟩, fun _ _ _ z => z.elim⟩
    rw [e]
    intro ι' H' x2 r v rv
    have z2 : (2 : Nat) ≤ sizeLine := by rw [sizeLine_eq]; decide
    refine ⟨z2, fun p' hp' => ?_⟩
    simp only [cTup, aCons, aNil, cC, R.bind_ok, e, List.length_cons, List.length_nil, Nat.zero_add, Nat.reduceAdd, if_pos z2, R.out_ok] at q
    exact q ι' _ ((x1.trans x2).trans (ext_new hp')) (r.new hp') _ (rv_tup r hp' (.cons (.str told hts) (.cons rv .nil)) z2)
  | exc y ah1 =>
    refine ⟨fun cls d H' => ∃ ι', Ext ι H1 ι' H' ∧ RH (sr X) Z ι' H' ah1 ∧ RX (sr X) Z ι' H' y cls d, ⟨Z, ι, ρ, ah, hH1, hE1, ?_⟩, ?_⟩
    · rw [e]
      exact fun cls dx ι' H' x r rx => ⟨ι', x, r, rx⟩
    · rintro cls d H' ⟨ι', x2, r, rx⟩
      refine ⟨Z, ι', y, ah1, r, rx, ?_⟩
      simp only [cTup, aCons, aNil, cC, R.bind_ok, e, R.bind_exc, R.out_exc] at q
      exact lam_caught q (x1.trans x2)
/-- try: return a() except ..: .. -/
def TTr (S : Sr) (n : Nat) (l : List Clause) : (XK → Hp → VK → Prop) → Hp → VK → Prop := fun tl H Q => ∃ Ech : XK, tl Ech H Q ∧ hWish S n l (dEnd Q) Ech
theorem gives_r {cdg : Value} {q : Str} (hN : Ng.Nodup) (hn : n = Ng.length) (hb : defBody stg = [.Try [.Return (some (.Call (.Name a p1) [] [] p2)) p3] (h₀ :: hds) [] [] p4]) (h0 : Ng[0]? = some a)
    (hh : ∀ s H, ∃ l', DHs (cxA X Ng x stg g cdg s H) (h₀ :: hds) l l') : GivesTo X Ng x (defScope stg) g cdg (defBody stg) a q (TTr (sr X) n l) := by
  intro f c' s H Q tl act hc h
  obtain ⟨l', hl⟩ := hh s H
  obtain ⟨Ech, ht, hw⟩ := h
  rw [hb]
  refine ⟨_, pss_one (ps_try_all (X := cxA X Ng x stg g cdg s H) (Wout := nowhere)
      (tb := fun W D σ H => ∃ Ech : XK, (∀ cls d σ' H', σ'.length = Ng.length → Ech cls d H' → W cls d σ' H') ∧ σ[0]? = some (some (.ref f)) ∧ H c' = some (CodeO c' q) ∧ tl Ech H D.rt)
      rfl rfl hN L2.takes0 (fun W pn xe tk _ => ?_) hl.hds), ?_⟩
  · refine ⟨fun pins s' σ H' D I h' => ?_⟩
    obtain ⟨E1, hW, h1, h2, h3⟩ := h'
    have hp := act _ pn xe E1 p1 p2 (takes_len tk) (fun cls d σ' H' he hl => hW cls d σ' H' hl he)
    have hq := pss_one (ps_ret (pos := p3) hp)
    exact hq.run pins s' σ H' D I ⟨h1, h2, h3⟩
  · refine ⟨Ech, fun cls d σ' H' hl' he => ?_, ?_, hc, ht⟩
    · obtain ⟨Z, ι, y, ah, r, rx, hr⟩ := hw cls d H' he
      exact catch_run hl hr cls d ι H' σ' .refl r (re_none (by rw [hl', hn])) rx
    · show (L2.start Ng [V.ref f])[0]? = _
      rfl
theorem de_lamR (F : Fun X.K x x stg g fdg) (hm : X.mg x = some (.ref g)) (hbd : Binds X.K fdg [a] []) (Sg : FnScope Ng [a] (defScope stg)) (hn : n = Ng.length)
    (hb : defBody stg = [.Try [.Return (some (.Call (.Name a p1) [] [] p2)) p3] (h₀ :: hds) [] [] p4])
    (hh : ∀ cdg s H, ∃ l', DHs (cxA X Ng x stg g cdg s H) (h₀ :: hds) l l')
    (hx0 : x0 ∈ lamNames) (ht : PySem.W.tabIn X.K x0 = some (c, P)) (hcode : X.env.code = .ref c) (TBb : TbB X.K X.base X.mg) (hu : TU X.K) (hr : Room (k + 2) X.A)
    (hbody : ∀ (A : Around) (outer : List Env) (s : Shared) (H : Hp) (E : XK) (f' c' : Addr), Room k (A.deeper (lamEnv X scope s.heap.objs.size f' c')) → DE (lamCx X A outer s H E scope f' c') (wxE E) body f)
    (L : LamS X.env.scope scope) (hq : x0 ++ (".<locals>.<lambda>" : Str) = X.env.qual ++ ("<lambda>" : Str) := by rfl) (h0 : Ng[0]? = some a := by rfl) (hva : Vis (defScope stg) a := by exact Or.inl rfl) (hg : Gl X x := by rfl)
    (hdef : defaultsOf params X.env = ([], []) := by rfl) (hbind : ∀ (q : Str) (cl : List (Str × Addr)) (pm cv ctv : Value), bindArgs (PySem.W.kla_fn "<lambda>" q params body scope cl pm cv ctv) ⟨[], []⟩ = pure [] := by intros; rfl)
    (hdb : (x == ("__debug__" : Str)) = false := by decide) (hd : (a == ("__debug__" : Str)) = false := by decide) (hcd : (a == ("__classdict__" : Str)) = false := by decide) :
    DE X W (.Call (.Name x p) [.Lambda params body scope lpos] [] pos) (cLam n (fun act => sTry (sRet act) l) f) := by
  obtain ⟨oc, od, kV, doc, pm, an, cdv, ct, osl, rfl, lk, hcg⟩ := F.ex
  have hmT : (P, X.env.qual ++ ("<lambda>" : Str)) ∈ tabsL X.K := List.mem_filterMap.mpr ⟨x0, hx0, by rw [ht, ← hq]; rfl⟩
  refine ⟨(pe_lamcall (T := tabsL X.K) (TT := TTr (sr X) n l) (a := a) (t := fun E => tOf (sr X) (wxE E) f) (k := k) (c := c) (P := P) hg hm F.kp lk hcg hbd Sg h0 hva (gives_r Sg.nd hn hb h0 (hh cdv)) (TBb x0 hx0 c P ht) hcode hmT (fun p' hp' e => hu p' hp' _ hmT e) hr L hdef hbind (fun A outer s H E f' c' hr' => (hbody A outer s H E f' c' hr').pe) hdb hd hcd).weak fun σ H Q q => ?_⟩
  obtain ⟨Z, ι, ρ, ah, hH, hE, q⟩ := q
  refine ⟨hH.tb, fun H1 eN T1 => ?_⟩
  have hH1 : RH (sr X) Z ι H1 ah := rh_tab hH eN T1
  have x1 : Ext ι H ι H1 := ext_tab eN
  have hE1 := hE.ext x1
  unfold cLam sTry sRet at q
  cases e : f ρ ah with
  | stuck => simp only [e, R.out_stuck] at q; exact q.elim
  | ok d ah1 =>
    refine ⟨fun _ _ _ => False, ⟨Z, ι, ρ, ah, hH1, hE1, ?_⟩, fun _ _ _ z => z.elim⟩
    rw [e]
    intro ι' H' x2 r v rv
    simp only [e, R.out_ok] at q
    exact q ι' _ (x1.trans x2) r _ rv
  | exc y ah1 =>
    refine ⟨fun cls d H' => ∃ ι', Ext ι H1 ι' H' ∧ RH (sr X) Z ι' H' ah1 ∧ RX (sr X) Z ι' H' y cls d, ⟨Z, ι, ρ, ah, hH1, hE1, ?_⟩, ?_⟩
    · rw [e]
      exact fun cls dx ι' H' x r rx => ⟨ι', x, r, rx⟩
    · rintro cls d H' ⟨ι', x2, r, rx⟩
      refine ⟨Z, ι', y, ah1, r, rx, ?_⟩
      simp only [e, R.out_exc] at q
      exact lam_caught q (x1.trans x2)
/-- try: a() except ..: .. -- then return None -/
def TTd (S : Sr) (n : Nat) (l : List Clause) : (XK → Hp → VK → Prop) → Hp → VK → Prop := fun tl H Q => ∃ Ech : XK, tl Ech H (fun _ H1 => Q .non H1) ∧ hWish S n l (dEnd Q) Ech
theorem gives_d {cdg : Value} {q : Str} (hN : Ng.Nodup) (hn : n = Ng.length) (hb : defBody stg = [.Try [.Expr (.Call (.Name a p1) [] [] p2) p3] (h₀ :: hds) [] [] p4, .Return (some (.Constant .none j p5)) p6]) (h0 : Ng[0]? = some a)
    (hh : ∀ s H, ∃ l', DHs (cxA X Ng x stg g cdg s H) (h₀ :: hds) l l') : GivesTo X Ng x (defScope stg) g cdg (defBody stg) a q (TTd (sr X) n l) := by
  intro f c' s H Q tl act hc h
  obtain ⟨l', hl⟩ := hh s H
  obtain ⟨Ech, ht, hw⟩ := h
  rw [hb]
  refine ⟨_, pss_cons (ps_try_all (X := cxA X Ng x stg g cdg s H) (Wout := nowhere)
      (tb := fun W D σ H => ∃ Ech : XK, (∀ cls d σ' H', σ'.length = Ng.length → Ech cls d H' → W cls d σ' H') ∧ σ[0]? = some (some (.ref f)) ∧ H c' = some (CodeO c' q) ∧ tl Ech H (fun _ H1 => D.nx σ H1))
      rfl rfl hN L2.takes0 (fun W pn xe tk _ => ?_) hl.hds) (pss_one (ps_ret (pos := p6) (pe_non (j := j) (pos := p5)))), ?_⟩
  · refine ⟨fun pins s' σ H' D I h' => ?_⟩
    obtain ⟨E1, hW, h1, h2, h3⟩ := h'
    have hp := act _ pn xe E1 p1 p2 (takes_len tk) (fun cls d σ' H' he hl => hW cls d σ' H' hl he)
    have hq := pss_one (ps_expr (pos := p3) hp)
    exact hq.run pins s' σ H' D I ⟨h1, h2, h3⟩
  · refine ⟨Ech, fun cls d σ' H' hl' he => ?_, ?_, hc, ht⟩
    · obtain ⟨Z, ι, y, ah, r, rx, hr⟩ := hw cls d H' he
      exact catch_run hl hr cls d ι H' σ' .refl r (re_none (by rw [hl', hn])) rx
    · show (L2.start Ng [V.ref f])[0]? = _
      rfl
theorem lam_caughtD {S : Sr} {W : WX} {Z ι ι' : List Addr} {H H' : Hp} {σ : L2.St} {Q : VK} {o : Out}
    (q : ResP S W Z ι H σ (fun d _ ι' H' => ∀ v, RV S.K Z ι' H' d v → Q v H') (match o.seq (sRet (cC .non)) with | .rt d ah1 => R.ok d ah1 | .nx _ ah1 => .ok .non ah1 | _ => .stuck)) (x : Ext ι H ι' H') : ResS S nowhere Z ι' H' (dEnd Q) o := by
  cases o with
  | rt d ah => exact fun ι2 H2 v x3 r3 rv => q ι2 H2 (x.trans x3) r3 v rv
  | nx ρ ah => exact fun ι2 H2 σ' x3 r3 _ => q ι2 H2 (x.trans x3) r3 .non .non
  | bk ρ ah => exact q.elim
  | ct ρ ah => exact q.elim
  | ex y ρ ah => exact q.elim
  | stuck => exact q.elim
theorem de_lamD (F : Fun X.K x x stg g fdg) (hm : X.mg x = some (.ref g)) (hbd : Binds X.K fdg [a] []) (Sg : FnScope Ng [a] (defScope stg)) (hn : n = Ng.length)
    (hb : defBody stg = [.Try [.Expr (.Call (.Name a p1) [] [] p2) p3] (h₀ :: hds) [] [] p4, .Return (some (.Constant .none j p5)) p6])
    (hh : ∀ cdg s H, ∃ l', DHs (cxA X Ng x stg g cdg s H) (h₀ :: hds) l l')
    (hx0 : x0 ∈ lamNames) (ht : PySem.W.tabIn X.K x0 = some (c, P)) (hcode : X.env.code = .ref c) (TBb : TbB X.K X.base X.mg) (hu : TU X.K) (hr : Room (k + 2) X.A)
    (hbody : ∀ (A : Around) (outer : List Env) (s : Shared) (H : Hp) (E : XK) (f' c' : Addr), Room k (A.deeper (lamEnv X scope s.heap.objs.size f' c')) → DE (lamCx X A outer s H E scope f' c') (wxE E) body f)
    (L : LamS X.env.scope scope) (hq : x0 ++ (".<locals>.<lambda>" : Str) = X.env.qual ++ ("<lambda>" : Str) := by rfl) (h0 : Ng[0]? = some a := by rfl) (hva : Vis (defScope stg) a := by exact Or.inl rfl) (hg : Gl X x := by rfl)
    (hdef : defaultsOf params X.env = ([], []) := by rfl) (hbind : ∀ (q : Str) (cl : List (Str × Addr)) (pm cv ctv : Value), bindArgs (PySem.W.kla_fn "<lambda>" q params body scope cl pm cv ctv) ⟨[], []⟩ = pure [] := by intros; rfl)
    (hdb : (x == ("__debug__" : Str)) = false := by decide) (hd : (a == ("__debug__" : Str)) = false := by decide) (hcd : (a == ("__classdict__" : Str)) = false := by decide) :
    DE X W (.Call (.Name x p) [.Lambda params body scope lpos] [] pos) (cLam n (fun act => sSeq (sTry (sDrop act) l) (sRet (cC .non))) f) := by
  obtain ⟨oc, od, kV, doc, pm, an, cdv, ct, osl, rfl, lk, hcg⟩ := F.ex
  have hmT : (P, X.env.qual ++ ("<lambda>" : Str)) ∈ tabsL X.K := List.mem_filterMap.mpr ⟨x0, hx0, by rw [ht, ← hq]; rfl⟩
  refine ⟨(pe_lamcall (T := tabsL X.K) (TT := TTd (sr X) n l) (a := a) (t := fun E => tOf (sr X) (wxE E) f) (k := k) (c := c) (P := P) hg hm F.kp lk hcg hbd Sg h0 hva (gives_d Sg.nd hn hb h0 (hh cdv)) (TBb x0 hx0 c P ht) hcode hmT (fun p' hp' e => hu p' hp' _ hmT e) hr L hdef hbind (fun A outer s H E f' c' hr' => (hbody A outer s H E f' c' hr').pe) hdb hd hcd).weak fun σ H Q q => ?_⟩
  obtain ⟨Z, ι, ρ, ah, hH, hE, q⟩ := q
  refine ⟨hH.tb, fun H1 eN T1 => ?_⟩
  have hH1 : RH (sr X) Z ι H1 ah := rh_tab hH eN T1
  have x1 : Ext ι H ι H1 := ext_tab eN
  have hE1 := hE.ext x1
  unfold cLam sSeq sTry sDrop at q
  cases e : f ρ ah with
  | stuck => simp only [e, R.out_stuck] at q; exact q.elim
  | ok d ah1 =>
    refine ⟨fun _ _ _ => False, ⟨Z, ι, ρ, ah, hH1, hE1, ?_⟩, fun _ _ _ z => z.elim⟩
    rw [e]
    intro ι' H' x2 r v rv
    simp only [e, R.out_ok] at q
    exact q ι' _ (x1.trans x2) r _ .non
  | exc y ah1 =>
    refine ⟨fun cls d H' => ∃ ι', Ext ι H1 ι' H' ∧ RH (sr X) Z ι' H' ah1 ∧ RX (sr X) Z ι' H' y cls d, ⟨Z, ι, ρ, ah, hH1, hE1, ?_⟩, ?_⟩
    · rw [e]
      exact fun cls dx ι' H' x r rx => ⟨ι', x, r, rx⟩
    · rintro cls d H' ⟨ι', x2, r, rx⟩
      refine ⟨Z, ι', y, ah1, r, rx, ?_⟩
      simp only [e, R.out_exc] at q
      exact lam_caughtD q (x1.trans x2)
end
end Qd
namespace Qd
open PySem PySem.Spec PyProof.Rows L2 Qx LamX
theorem rm_of {X : Cx} {k : Nat} (h : Room k X.A) : Rm X := by
  have h : X.A.units + 16 * k + 200 < cLine := h.un
  show X.A.units + 130 < cLine
  omega
theorem rm_lam {X : Cx} {A : Around} {outer : List Env} {s : Shared} {H : Hp} {E : XK} {scope : Scope} {f c' : Addr} {k : Nat} (h : Room k (A.deeper (lamEnv X scope s.heap.objs.size f c'))) : Rm (lamCx X A outer s H E scope f c') := rm_of h
theorem fn_runL {P : Program} {w : World} {K : PySem.W.Frag} {mg : Str → Option Value} {base : Heap} {x qual : Str} {st : Stmt} {f : Addr} {fd : FuncData} {N ps : List Str} {k m : Nat} {s : SS} {FF0 : FF} (hF : FF0 = runF m s) (hm : m = N.length) (F : Fun K x qual st f fd) (S : FnScope N ps (defScope st))
    (body : ∀ (cdv : Value) (A : Around) (outer : List Env) (s0 : Shared) (H : Hp) (E : XK), Room k (A.deeper (PyProof.Rows.envOfC qual (defScope st) s0.heap.objs.size f cdv)) → Rm (cxD P w K mg base N qual st f cdv A outer s0 H E) → fd.code = cdv → DSs (cxD P w K mg base N qual st f cdv A outer s0 H E) (wxE E) (defBody st) s) :
    Fn P w K mg base (k + 1) f fd ps FF0 := by
  subst hm
  subst hF
  obtain ⟨oc, od, kV, doc, pm, an, cdv, ct, osl, rfl, lk, hcd⟩ := F.ex
  refine fn_of lk hcd S (fun vs H Q E h => h.1) fun A outer s0 H vs Q E hr h => ⟨_, (body cdv A outer s0 H E hr (rm_of hr) rfl).pss, ?_⟩
  obtain ⟨hl, Z, ι, ds, ah, hH, hv, h⟩ := h
  refine ⟨Z, ι, _, ah, hH, re_start hv N.length, ?_⟩
  unfold runF at h
  cases e : s (ds.map some ++ List.replicate (N.length - ds.length) none) ah with
  | rt d ah' => rw [e] at h; exact fun ι' H' v x r1 r2 => h ι' H' x r1 v r2
  | nx ρ ah' => rw [e] at h; exact fun ι' H' σ' x r1 r2 => h ι' H' x r1 .non .non
  | bk ρ ah' => rw [e] at h; exact h.elim
  | ct ρ ah' => rw [e] at h; exact h.elim
  | ex y ρ ah' => rw [e] at h; exact fun cls dx ι' H' σ' x r1 r2 r3 => h cls dx ι' H' x r1 r3
  | stuck => rw [e] at h; exact h.elim
theorem tab_code {K : PySem.W.Frag} {x : Str} {f c P : Addr} {oc : Value} {od : Option Addr} {fd : FuncData} {osl : Array (Option Value)} (a : PySem.W.nsIn K mainGlobals x = some (some (.ref f))) (l : K.lookup f = some ⟨oc, od, .func fd, osl⟩) (t : PySem.W.tabIn K x = some (c, P)) : fd.code = .ref c := by
  unfold PySem.W.tabIn at t
  rw [a] at t
  simp only [l] at t
  split at t
  · rename_i c' hc
    split at t
    · split at t
      · cases t; exact hc
      · cases t
    · cases t
  · cases t
theorem tu_one {K : PySem.W.Frag} {x : Str} (h : lamNames = [x]) : TU K := by
  intro p hp p' hp' _
  unfold tabsL at hp hp'
  rw [h] at hp hp'
  cases e : PySem.W.tabIn K x with
  | none => simp [e] at hp
  | some q =>
    simp [e] at hp hp'
    rw [hp, hp']
end Qd
namespace Qd
open PySem PySem.Spec PyProof.Rows L2
theorem tab_mk {K : PySem.W.Frag} {x : Str} {f c P : Addr} {oc oc2 : Value} {od od2 : Option Addr} {fd : FuncData} {osl osl2 : Array (Option Value)} {vs : Array Value} (a : PySem.W.nsIn K mainGlobals x = some (some (.ref f))) (l : K.lookup f = some ⟨oc, od, .func fd, osl⟩) (hc : fd.code = .ref c)
    (k : K.lookup c = some ⟨oc2, od2, .fields vs, osl2⟩) (v : vs[11]? = some (.ref P)) : PySem.W.tabIn K x = some (c, P) := by
  unfold PySem.W.tabIn
  rw [a]
  simp only [l, hc, k, v]
end Qd

set_option Elab.async false
set_option linter.all false
set_option maxRecDepth 100000
set_option maxHeartbeats 4000000
/-! QPl: plain laws of what every law's text holds: the bag, taking from it, alike. -/
namespace Pl
open PySem L2 Qd
noncomputable def s_bag : SS :=
  (sRet (cLstM (aCons (cC (.int 0)) (aCons (cC (.int 1234567891)) (aCons (cC (.int 0)) (aCons (cLc (iOf (cSl (cVar 0) oNone (oSome (cC (.int 63))))) (gNm 1) cYes (cBi bAbs (aCons (cVar 1) aNil)) [1]) aNil))))))
noncomputable def F_bag : FF := runF 2 s_bag
noncomputable def s_take : SS :=
  (sSeq (sIf (cOp dEq (cOp dIx (cVar 0) (cC (.int 0))) (cC (.int 0))) (sSeq (sAsg (cOp dIx (cOp dAdd (cSl (cOp dIx (cVar 0) (cC (.int 3))) (oSome (cOp dIx (cVar 0) (cC (.int 2)))) oNone) (cLst (aCons (cC (.int 0)) aNil))) (cC (.int 0))) (gNm 2))
    (sSeq (sAugIx dAddI (cVar 0) (cC (.int 2)) (cC (.int 1)))
    (sSeq (sIf (cOp dGe (cVar 2) (cOp dPow (cC (.int 10)) (cC (.int 18)))) (sSetIx (cVar 2) (cVar 0) (cC (.int 0))) sNext)
    (sSeq (sAsg (cOp dAdd (cOp dAdd (cOp dMul (cOp dIx (cVar 0) (cC (.int 1))) (cC (.int 48271))) (cOp dMod (cBi bInt (aCons (cVar 2) aNil)) (cC (.int 2147483647)))) (cOp dMul (cC (.int 7919)) (cOp dIx (cVar 0) (cC (.int 2))))) (gNm 3))
    (sSetIx (cOp dMod (cBi bInt (aCons (cVar 3) aNil)) (cC (.int 2147483647))) (cVar 0) (cC (.int 1))))))) sNext)
    (sSeq (sIf (cOp dGt (cOp dIx (cVar 0) (cC (.int 0))) (cC (.int 0))) (sSeq (sAsg (cOp dMod (cBi bInt (aCons (cOp dIx (cVar 0) (cC (.int 0))) aNil)) (cVar 1)) (gNm 4))
    (sSeq (sSetIx (cOp dDiv (cBi bInt (aCons (cOp dIx (cVar 0) (cC (.int 0))) aNil)) (cVar 1)) (cVar 0) (cC (.int 0)))
    (sRet (cVar 4)))) sNext)
    (sSeq (sAsg (cOp dMod (cBi bInt (aCons (cOp dMul (cOp dAdd (cOp dIx (cVar 0) (cC (.int 1))) (cC (.int 1))) (cC (.int 39373))) aNil)) (cC (.int 1000000007))) (gNm 5))
    (sSeq (sAsg (cOp dMod (cBi bInt (aCons (cOp dMul (cOp dMod (cBi bInt (aCons (cOp dMul (cVar 5) (cVar 5)) aNil)) (cC (.int 998244353))) (cC (.int 30011))) aNil)) (cC (.int 998244353))) (gNm 6))
    (sRet (cOp dMod (cBi bInt (aCons (cOp dDiv (cVar 6) (cC (.int 7))) aNil)) (cVar 1)))))))
noncomputable def F_take : FF := runF 7 s_take
noncomputable def s_some : SS :=
  (sRet (cOp dIx (cVar 1) (cCallB 2 0 F_take (aCons (cVar 0) (aCons (cBi bLen (aCons (cVar 1) aNil)) aNil)))))
noncomputable def F_some : FF := runF 2 s_some
noncomputable def s_alike : SS :=
  (sSeq (sPar 2 3 (aCons (cLstM (aCons (cTup (aCons (cVar 0) (aCons (cVar 1) aNil))) aNil)) (aCons (cC (.int 0)) aNil)))
    (sSeq (sWhile (cOp dLt (cVar 3) (cBi bLen (aCons (cVar 2) aNil))) (sSeq (sAsg (cOp dIx (cVar 2) (cVar 3)) (gTp 2 (gsCons (gNm 4) (gsCons (gNm 5) gsNil))))
    (sSeq (sAug 3 dAddI (cC (.int 1)))
    (sSeq (sIf (cOr (cOp dNe (cIsi ["bool"] (cVar 4)) (cIsi ["bool"] (cVar 5))) (cOp dNe (cIsi ["str"] (cVar 4)) (cIsi ["str"] (cVar 5)))) (sRet (cC (.bl false))) sNext)
    (sSeq (sIf (cOp dNe (cIsi ["tuple", "list"] (cVar 4)) (cIsi ["tuple", "list"] (cVar 5))) (sRet (cC (.bl false))) sNext)
    (sIf (cIsi ["tuple", "list"] (cVar 4)) (sSeq (sIf (cOr (cOp dNe (cIsi ["tuple"] (cVar 4)) (cIsi ["tuple"] (cVar 5))) (cOp dNe (cBi bLen (aCons (cVar 4) aNil)) (cBi bLen (aCons (cVar 5) aNil)))) (sRet (cC (.bl false))) sNext)
    (sDrop (cMtL mExtend (cVar 2) (aCons (cLZip (aCons (cVar 4) (aCons (cVar 5) aNil))) aNil)))) (sIf (cOp dNe (cVar 4) (cVar 5)) (sRet (cC (.bl false))) sNext)))))))
    (sRet (cC (.bl true)))))
noncomputable def F_alike : FF := runF 6 s_alike

section
variable {ρ : Rho} {ah : List AO} {f g k : SE} {ga : SA} {s t : SS} {sg : SG} {sgs : SGs} {o : DOp} {ob : List D → List AO → R D} {om : D → List D → List AO → R D} {d x : D} {ds xs : List D} {i n : Nat} {lo hi : SO}
theorem ap_var : cVar i ρ ah = match ρ[i]? with
  | some (some d) => .ok d ah
  | _ => .stuck := rfl
theorem ap_c : cC d ρ ah = .ok d ah := rfl
theorem ap_op : cOp o f g ρ ah = (f ρ ah).bind fun x ah1 => (g ρ ah1).bind fun y ah2 => o x y ah2 := rfl
theorem ap_nil : aNil ρ ah = .ok [] ah := rfl
theorem ap_cons : aCons f ga ρ ah = (f ρ ah).bind fun d ah1 => (ga ρ ah1).bind fun ds ah2 => .ok (d :: ds) ah2 := rfl
theorem ap_bi : cBi ob ga ρ ah = (ga ρ ah).bind fun ds ah1 => ob ds ah1 := rfl
theorem ap_seq : sSeq s t ρ ah = (s ρ ah).seq t := rfl
theorem ap_if : sIf f s t ρ ah = (f ρ ah).out ρ fun d ah1 => onBO d (s ρ ah1) (t ρ ah1) := rfl
theorem ap_asg : sAsg f sg ρ ah = (f ρ ah).out ρ fun d ah1 => match sg d ρ with
  | some ρ1 => .nx ρ1 ah1
  | none => .stuck := rfl
theorem ap_nm : gNm i d ρ = some (ρ.set i (some d)) := rfl
theorem ap_ret : sRet f ρ ah = (f ρ ah).out ρ fun d ah1 => .rt d ah1 := rfl
theorem ap_next : sNext ρ ah = .nx ρ ah := rfl
theorem ap_drop : sDrop f ρ ah = (f ρ ah).out ρ fun _ ah1 => .nx ρ ah1 := rfl
theorem ap_sl : cSl f lo hi ρ ah = (f ρ ah).bind fun a ah1 => (lo ρ ah1).bind fun l ah2 => (hi ρ ah2).bind fun u ah3 => dSl a l u ah3 := rfl
theorem ap_oN : oNone ρ ah = .ok none ah := rfl
theorem ap_oS : oSome f ρ ah = (f ρ ah).bind fun d ah1 => match d with
  | .int i => .ok (some i) ah1
  | _ => .stuck := by first | rfl | (unfold oSome; rfl)
theorem ap_setIx {fe fo fi : SE} : sSetIx fe fo fi ρ ah = (fe ρ ah).out ρ fun d ah1 => (fo ρ ah1).out ρ fun o ah2 => (fi ρ ah2).out ρ fun i ah3 => (setIx o i d ah3).out ρ fun _ ah4 => .nx ρ ah4 := rfl
theorem ap_augIx {fe fo fi : SE} : sAugIx o fo fi fe ρ ah = (fo ρ ah).out ρ fun l ah1 => (fi ρ ah1).out ρ fun i ah2 => match look ah2 l, i with
  | .lst xs, .int k => match atI xs k with
    | some x => (fe ρ ah2).out ρ fun y ah3 => (o x y ah3).out ρ fun z ah4 => (setIx l i z ah4).out ρ fun _ ah5 => .nx ρ ah5
    | none => .stuck
  | _, _ => .stuck := rfl
theorem ap_lst : cLst ga ρ ah = (ga ρ ah).bind fun ds ah1 => if ds.length ≤ sizeLine then .ok (.lst ds) ah1 else .stuck := rfl
end
section
variable {ah : List AO} {a b : Int} {i : Nat} {ds : List D} {xs : List D}
theorem dEq_ii : dEq (.int a) (.int b) ah = .ok (.bl (a == b)) ah := by simp [dEq, eqOk, look, D.nr, D.dep, D.eq]
theorem dNe_ii : dNe (.int a) (.int b) ah = .ok (.bl (!(a == b))) ah := by simp [dNe, eqOk, look, D.nr, D.dep, D.eq]
theorem dLt_ii : dLt (.int a) (.int b) ah = .ok (.bl (decide (a < b))) ah := by simp [dLt, ltOk, look, D.nr, D.dep, D.alk, isNon, D.lt]
theorem dGt_ii : dGt (.int a) (.int b) ah = .ok (.bl (decide (b < a))) ah := by simp [dGt, ltOk, look, D.nr, D.dep, D.alk, isNon, D.lt]
theorem dLe_ii : dLe (.int a) (.int b) ah = .ok (.bl (!decide (b < a))) ah := by simp [dLe, ltOk, look, D.nr, D.dep, D.alk, isNon, D.lt]
theorem dGe_ii : dGe (.int a) (.int b) ah = .ok (.bl (!decide (a < b))) ah := by simp [dGe, ltOk, look, D.nr, D.dep, D.alk, isNon, D.lt]
theorem dAdd_ii : dAdd (.int a) (.int b) ah = .ok (.int (a + b)) ah := by simp [dAdd, look]
theorem dInt_ii {c : Int → Int → Bool} {o : Int → Int → Int} (h : c a b = true) : dInt c o (.int a) (.int b) ah = .ok (.int (o a b)) ah := by simp [dInt, h]
end
/-- the bag: what is left of the last cell, the stirred number, the next cell's place, the cells -/
def bagD (m s c : Int) (cells : List Int) : List D := [.int m, .int s, .int c, .lst (cells.map .int)]
structure BagOk (N : Int) (xs : List D) : Prop where
  ex : ∃ m s c cells, xs = bagD m s c cells ∧ 0 ≤ m ∧ 0 ≤ s ∧ s < 2147483647 ∧ 0 ≤ c ∧ c ≤ N ∧ cells.length ≤ 63 ∧ ∀ x ∈ cells, 0 ≤ x
theorem log2_le {a : Int} {k : Nat} (h0 : 0 ≤ a) (h : a < 2 ^ k) (hk : 0 < k) : a.natAbs.log2 < k := by
  by_cases h1 : a.natAbs = 0
  · rw [h1]; simpa using hk
  · rw [Nat.log2_lt h1]
    have : (a.natAbs : Int) < 2 ^ k := by omega
    exact_mod_cast this
theorem atI_0 {α : Type} {a : α} {xs : List α} : atI (a :: xs) 0 = some a := by simp [atI, ixN]
theorem bag_0 {m s c : Int} {cells : List Int} : atI (bagD m s c cells) 0 = some (.int m) := rfl
theorem bag_1 {m s c : Int} {cells : List Int} : atI (bagD m s c cells) 1 = some (.int s) := rfl
theorem bag_2 {m s c : Int} {cells : List Int} : atI (bagD m s c cells) 2 = some (.int c) := rfl
theorem bag_3 {m s c : Int} {cells : List Int} : atI (bagD m s c cells) 3 = some (.lst (cells.map .int)) := rfl
theorem dIx_bag {m s c : Int} {cells : List Int} {i : Int} {ah : List AO} {x : D} (h : atI (bagD m s c cells) i = some x) : dIx (.ref 0) (.int i) (.lst (bagD m s c cells) :: ah) = .ok x (.lst (bagD m s c cells) :: ah) := by
  simp [dIx, look, h]
theorem set_0 {m s c x : Int} {cells : List Int} {ah : List AO} : setIx (.ref 0) (.int 0) (.int x) (.lst (bagD m s c cells) :: ah) = .ok () (.lst (bagD x s c cells) :: ah) := rfl
theorem set_1 {m s c x : Int} {cells : List Int} {ah : List AO} : setIx (.ref 0) (.int 1) (.int x) (.lst (bagD m s c cells) :: ah) = .ok () (.lst (bagD m x c cells) :: ah) := rfl
theorem set_2 {m s c x : Int} {cells : List Int} {ah : List AO} : setIx (.ref 0) (.int 2) (.int x) (.lst (bagD m s c cells) :: ah) = .ok () (.lst (bagD m s x cells) :: ah) := rfl
theorem look_bag {m s c : Int} {cells : List Int} {ah : List AO} : look (.lst (bagD m s c cells) :: ah) (.ref 0) = .lst (bagD m s c cells) := rfl
theorem bInt_i {i : Int} {ah : List AO} : bInt [.int i] ah = .ok (.int i) ah := rfl
theorem cut_from {α : Type} {xs : List α} {c : Int} (h : 0 ≤ c) : cut xs (some c) none = xs.drop c.toNat := by
  unfold cut
  have e : HT.sIx xs.length 0 (some c) = min c.toNat xs.length := if_neg (by omega)
  rw [e]
  show (xs.drop (min c.toNat xs.length)).take (xs.length - min c.toNat xs.length) = _
  rcases Nat.le_total c.toNat xs.length with q | q
  · rw [Nat.min_eq_left q, List.take_of_length_le (by simp)]
  · rw [Nat.min_eq_right q, List.drop_length, List.drop_eq_nil_of_le q]; simp
/-- the cell at c, or 0 -/
def cellAt (cells : List Int) (c : Int) : Int := (cells.drop c.toNat).headD 0
theorem cell_run {cells : List Int} {c : Int} {ah : List AO} (h : 0 ≤ c) (hl : cells.length ≤ 63) : ((dSl (.lst (cells.map .int)) (some c) none ah).bind fun x ah1 => (if 1 ≤ sizeLine then R.ok (D.lst [D.int 0]) ah1 else R.stuck).bind fun y ah2 => dAdd x y ah2).bind (fun x ah1 => dIx x (D.int 0) ah1) = .ok (.int (cellAt cells c)) ah := by
  have e1 : dSl (.lst (cells.map .int)) (some c) none ah = .ok (.lst ((cells.map .int).drop c.toNat)) ah := by
    show R.ok (D.lst (cut (cells.map D.int) (some c) none)) ah = _
    rw [cut_from h]
  rw [e1]
  have hz : (1 : Nat) ≤ sizeLine := by decide
  have e2 : dAdd (.lst ((cells.map D.int).drop c.toNat)) (.lst [D.int 0]) ah = .ok (.lst ((cells.map D.int).drop c.toNat ++ [D.int 0])) ah := by
    have : ((cells.map D.int).drop c.toNat).length + [D.int 0].length ≤ sizeLine := by
      rw [List.length_drop, List.length_map]
      show cells.length - c.toNat + 1 ≤ sizeLine
      have : (64 : Nat) ≤ sizeLine := by decide
      omega
    simp only [dAdd, look]
    rw [if_pos this]
  simp only [R.bind_ok, hz, if_true, e2]
  unfold cellAt
  rw [← List.map_drop]
  cases cells.drop c.toNat with
  | nil => rfl
  | cons a r =>
    show dIx (D.lst (D.int a :: (List.map D.int r ++ [D.int 0]))) (.int 0) ah = _
    simp [dIx, look, atI_0]
theorem pow18 {ah : List AO} : dPow (.int 10) (.int 18) ah = .ok (.int 1000000000000000000) ah := by
  unfold dPow
  rw [dInt_ii (by decide)]
  rfl
theorem mul_ok {a b : Int} {ah : List AO} (h : a.natAbs.log2 + b.natAbs.log2 < 1000000) : dMul (.int a) (.int b) ah = .ok (.int (a * b)) ah := dInt_ii (by simpa using h)
theorem mod_ok {a b : Int} {ah : List AO} (h : 0 < b) : dMod (.int a) (.int b) ah = .ok (.int (a % b)) ah := dInt_ii (by simpa using h)
theorem div_ok {a b : Int} {ah : List AO} (h : 0 < b) (h2 : b.natAbs.log2 < 9000) : dDiv (.int a) (.int b) ah = .ok (.int (a / b)) ah := dInt_ii (by simp [h, h2])
theorem log_small {a : Int} (h0 : 0 ≤ a) (h : a < 2 ^ 100) : a.natAbs.log2 < 100 := log2_le h0 h (by decide)
theorem mul_small {a b : Int} {ah : List AO} (h0 : 0 ≤ a) (h : a < 2 ^ 100) (g0 : 0 ≤ b) (g : b < 2 ^ 100) : dMul (.int a) (.int b) ah = .ok (.int (a * b)) ah :=
  mul_ok (by have := log_small h0 h; have := log_small g0 g; omega)
theorem cell_nonneg {cells : List Int} {c : Int} (h : ∀ x ∈ cells, 0 ≤ x) : 0 ≤ cellAt cells c := by
  unfold cellAt
  cases e : cells.drop c.toNat with
  | nil => decide
  | cons a r => exact h a (List.mem_of_mem_drop (by rw [e]; exact List.mem_cons_self))
/-- from the bag with a cell left, or none -/
theorem take_tail {m s c many : Int} {cells : List Int} {r2 r3 : Option D} (hm : 0 ≤ m) (hs : 0 ≤ s) (hs2 : s < 2147483647) (h0 : 0 < many) (h1 : many.natAbs.log2 < 9000) :
    ∃ (v m' : Int), endF (sSeq (sIf (cOp dGt (cOp dIx (cVar 0) (cC (.int 0))) (cC (.int 0))) (sSeq (sAsg (cOp dMod (cBi bInt (aCons (cOp dIx (cVar 0) (cC (.int 0))) aNil)) (cVar 1)) (gNm 4))
    (sSeq (sSetIx (cOp dDiv (cBi bInt (aCons (cOp dIx (cVar 0) (cC (.int 0))) aNil)) (cVar 1)) (cVar 0) (cC (.int 0)))
    (sRet (cVar 4)))) sNext)
    (sSeq (sAsg (cOp dMod (cBi bInt (aCons (cOp dMul (cOp dAdd (cOp dIx (cVar 0) (cC (.int 1))) (cC (.int 1))) (cC (.int 39373))) aNil)) (cC (.int 1000000007))) (gNm 5))
    (sSeq (sAsg (cOp dMod (cBi bInt (aCons (cOp dMul (cOp dMod (cBi bInt (aCons (cOp dMul (cVar 5) (cVar 5)) aNil)) (cC (.int 998244353))) (cC (.int 30011))) aNil)) (cC (.int 998244353))) (gNm 6))
    (sRet (cOp dMod (cBi bInt (aCons (cOp dDiv (cVar 6) (cC (.int 7))) aNil)) (cVar 1))))) [some (.ref 0), some (.int many), r2, r3, none, none, none] [.lst (bagD m s c cells)]) =
      .ok (.int v) [.lst (bagD m' s c cells)] ∧ 0 ≤ v ∧ v < many ∧ 0 ≤ m' := by
  by_cases hm0 : 0 < m
  · have e1 : decide (0 < m) = true := by simpa using hm0
    simp only [ap_var, ap_c, ap_op, ap_nil, ap_cons, ap_bi, ap_seq, ap_if, ap_asg, ap_nm, ap_ret, ap_next, ap_drop, ap_sl, ap_oN, ap_oS, ap_setIx, ap_augIx, ap_lst, R.bind_ok, R.bind_exc, R.bind_stuck, R.out_ok, R.out_exc, R.out_stuck, Out.seq_nx, Out.seq_rt, onBO_true, onBO_false, onB_true, onB_false, endF_rt, endF_nx, dEq_ii, dNe_ii, dLt_ii, dGt_ii, dLe_ii, dGe_ii, dAdd_ii, bInt_i, List.getElem?_cons_zero, List.getElem?_cons_succ, List.set_cons_zero, List.set_cons_succ, List.map_cons, List.map_nil, List.length_cons, List.length_nil, List.replicate, List.cons_append, List.nil_append, Nat.reduceAdd, Nat.reduceSub, dIx_bag bag_0, e1, mod_ok h0, div_ok h0 h1, set_0]
    exact ⟨m % many, m / many, rfl, Int.emod_nonneg _ (by omega), Int.emod_lt_of_pos _ h0, Int.ediv_nonneg hm (by omega)⟩
  · have e1 : decide (0 < m) = false := by simpa using hm0
    have b5 : 0 ≤ (s + 1) * 39373 % 1000000007 := Int.emod_nonneg _ (by decide)
    have b6 : (s + 1) * 39373 % 1000000007 < 1000000007 := Int.emod_lt_of_pos _ (by decide)
    generalize hb : (s + 1) * 39373 % 1000000007 = begin' at b5 b6
    have c5 : 0 ≤ begin' * begin' % 998244353 := Int.emod_nonneg _ (by decide)
    have c6 : begin' * begin' % 998244353 < 998244353 := Int.emod_lt_of_pos _ (by decide)
    simp only [ap_var, ap_c, ap_op, ap_nil, ap_cons, ap_bi, ap_seq, ap_if, ap_asg, ap_nm, ap_ret, ap_next, ap_drop, ap_sl, ap_oN, ap_oS, ap_setIx, ap_augIx, ap_lst, R.bind_ok, R.bind_exc, R.bind_stuck, R.out_ok, R.out_exc, R.out_stuck, Out.seq_nx, Out.seq_rt, onBO_true, onBO_false, onB_true, onB_false, endF_rt, endF_nx, dEq_ii, dNe_ii, dLt_ii, dGt_ii, dLe_ii, dGe_ii, dAdd_ii, bInt_i, List.getElem?_cons_zero, List.getElem?_cons_succ, List.set_cons_zero, List.set_cons_succ, List.map_cons, List.map_nil, List.length_cons, List.length_nil, List.replicate, List.cons_append, List.nil_append, Nat.reduceAdd, Nat.reduceSub, dIx_bag bag_0, dIx_bag bag_1, e1, mul_small (a := s + 1) (b := 39373) (by omega) (by omega) (by decide) (by decide), mod_ok (b := 1000000007) (by decide), mod_ok (b := 998244353) (by decide), hb,
      mul_small (a := begin') (b := begin') b5 (by omega) b5 (by omega), mul_small (a := begin' * begin' % 998244353) (b := 30011) c5 (by omega) (by decide) (by decide), div_ok (b := 7) (by decide) (by decide), mod_ok h0]
    exact ⟨_, m, rfl, Int.emod_nonneg _ (by omega), Int.emod_lt_of_pos _ h0, hm⟩
theorem addI_ii {a b : Int} {ah : List AO} : dAddI (.int a) (.int b) ah = .ok (.int (a + b)) ah := dInt_ii rfl
theorem take_run {N many : Int} {xs : List D} (hb : BagOk N xs) (hN : N < 2 ^ 60) (h0 : 0 < many) (h1 : many.natAbs.log2 < 9000) :
    ∃ (v : Int) (ys : List D), F_take [.ref 0, .int many] [.lst xs] = .ok (.int v) [.lst ys] ∧ 0 ≤ v ∧ v < many ∧ BagOk (N + 1) ys := by
  obtain ⟨m, s, c, cells, rfl, hm, hs, hs2, hc, hcN, hl, hcell⟩ := hb.ex
  unfold F_take runF s_take
  rw [ap_seq]
  by_cases hm0 : m = 0
  · subst hm0
    have hv := cell_nonneg (c := c) hcell
    generalize hz : cellAt cells c = z at hv
    have d5 : 0 ≤ z % 2147483647 := Int.emod_nonneg _ (by decide)
    have d6 : z % 2147483647 < 2147483647 := Int.emod_lt_of_pos _ (by decide)
    have e5 : 0 ≤ (s * 48271 + z % 2147483647 + 7919 * (c + 1)) % 2147483647 := Int.emod_nonneg _ (by decide)
    have e6 : (s * 48271 + z % 2147483647 + 7919 * (c + 1)) % 2147483647 < 2147483647 := Int.emod_lt_of_pos _ (by decide)
    by_cases hbig : z < 1000000000000000000
    · have e1 : decide (z < 1000000000000000000) = true := by simpa using hbig
      simp only [ap_var, ap_c, ap_op, ap_nil, ap_cons, ap_bi, ap_seq, ap_if, ap_asg, ap_nm, ap_ret, ap_next, ap_drop, ap_sl, ap_oN, ap_oS, ap_setIx, ap_augIx, ap_lst, R.bind_ok, R.bind_exc, R.bind_stuck, R.out_ok, R.out_exc, R.out_stuck, Out.seq_nx, Out.seq_rt, onBO_true, onBO_false, onB_true, onB_false, endF_rt, endF_nx, dEq_ii, dNe_ii, dLt_ii, dGt_ii, dLe_ii, dGe_ii, dAdd_ii, bInt_i, List.getElem?_cons_zero, List.getElem?_cons_succ, List.set_cons_zero, List.set_cons_succ, List.map_cons, List.map_nil, List.length_cons, List.length_nil, List.replicate, List.cons_append, List.nil_append, Nat.reduceAdd, Nat.reduceSub, dIx_bag bag_0, dIx_bag bag_1, dIx_bag bag_2, dIx_bag bag_3, beq_self_eq_true, cell_run hc hl, hz, look_bag, bag_2, addI_ii, set_2, pow18, e1, Bool.not_true, mul_small (a := s) (b := 48271) hs (by omega) (by decide) (by decide),
        mul_small (a := 7919) (b := c + 1) (by decide) (by decide) (by omega) (by omega), mod_ok (b := 2147483647) (by decide), set_1]
      obtain ⟨v, m', e, q1, q2, q3⟩ := take_tail (m := 0) (s := (s * 48271 + z % 2147483647 + 7919 * (c + 1)) % 2147483647) (c := c + 1) (cells := cells) (r2 := some (.int z)) (r3 := some (.int (s * 48271 + z % 2147483647 + 7919 * (c + 1)))) (by decide) e5 e6 h0 h1
      exact ⟨v, _, e, q1, q2, ⟨m', _, c + 1, cells, rfl, q3, e5, e6, by omega, by omega, hl, hcell⟩⟩
    · have e1 : decide (z < 1000000000000000000) = false := by simpa using hbig
      simp only [ap_var, ap_c, ap_op, ap_nil, ap_cons, ap_bi, ap_seq, ap_if, ap_asg, ap_nm, ap_ret, ap_next, ap_drop, ap_sl, ap_oN, ap_oS, ap_setIx, ap_augIx, ap_lst, R.bind_ok, R.bind_exc, R.bind_stuck, R.out_ok, R.out_exc, R.out_stuck, Out.seq_nx, Out.seq_rt, onBO_true, onBO_false, onB_true, onB_false, endF_rt, endF_nx, dEq_ii, dNe_ii, dLt_ii, dGt_ii, dLe_ii, dGe_ii, dAdd_ii, bInt_i, List.getElem?_cons_zero, List.getElem?_cons_succ, List.set_cons_zero, List.set_cons_succ, List.map_cons, List.map_nil, List.length_cons, List.length_nil, List.replicate, List.cons_append, List.nil_append, Nat.reduceAdd, Nat.reduceSub, dIx_bag bag_0, dIx_bag bag_1, dIx_bag bag_2, dIx_bag bag_3, beq_self_eq_true, cell_run hc hl, hz, look_bag, bag_2, addI_ii, set_2, pow18, e1, Bool.not_false, set_0, mul_small (a := s) (b := 48271) hs (by omega) (by decide) (by decide),
        mul_small (a := 7919) (b := c + 1) (by decide) (by decide) (by omega) (by omega), mod_ok (b := 2147483647) (by decide), set_1]
      obtain ⟨v, m', e, q1, q2, q3⟩ := take_tail (m := z) (s := (s * 48271 + z % 2147483647 + 7919 * (c + 1)) % 2147483647) (c := c + 1) (cells := cells) (r2 := some (.int z)) (r3 := some (.int (s * 48271 + z % 2147483647 + 7919 * (c + 1)))) hv e5 e6 h0 h1
      exact ⟨v, _, e, q1, q2, ⟨m', _, c + 1, cells, rfl, q3, e5, e6, by omega, by omega, hl, hcell⟩⟩
  · have e0 : (m == 0) = false := by simpa using hm0
    simp only [ap_var, ap_c, ap_op, ap_nil, ap_cons, ap_bi, ap_seq, ap_if, ap_asg, ap_nm, ap_ret, ap_next, ap_drop, ap_sl, ap_oN, ap_oS, ap_setIx, ap_augIx, ap_lst, R.bind_ok, R.bind_exc, R.bind_stuck, R.out_ok, R.out_exc, R.out_stuck, Out.seq_nx, Out.seq_rt, onBO_true, onBO_false, onB_true, onB_false, endF_rt, endF_nx, dEq_ii, dNe_ii, dLt_ii, dGt_ii, dLe_ii, dGe_ii, dAdd_ii, bInt_i, List.getElem?_cons_zero, List.getElem?_cons_succ, List.set_cons_zero, List.set_cons_succ, List.map_cons, List.map_nil, List.length_cons, List.length_nil, List.replicate, List.cons_append, List.nil_append, Nat.reduceAdd, Nat.reduceSub, dIx_bag bag_0, e0]
    obtain ⟨v, m', e, q1, q2, q3⟩ := take_tail (m := m) (s := s) (c := c) (cells := cells) (r2 := none) (r3 := none) hm hs hs2 h0 h1
    exact ⟨v, _, e, q1, q2, ⟨m', s, c, cells, rfl, q3, hs, hs2, hc, by omega, hl, hcell⟩⟩
/-! ### alike -/
def kids : D → List D
  | .tup ds => ds.map fun z => .tup [z, z]
  | .lst ds => ds.map fun z => .tup [z, z]
  | _ => []
theorem zip_self : ∀ ds : List D, zipD ds ds = ds.map fun z => .tup [z, z]
  | [] => rfl
  | d :: ds => by
    have := zip_self ds
    unfold zipD at this ⊢
    rw [List.zipWith_cons_cons, this]; rfl
theorem isTy_bool : isTy "bool" ["bool"] = some true ∧ isTy "bool" ["str"] = some false ∧ isTy "bool" ["tuple", "list"] = some false ∧ isTy "bool" ["tuple"] = some false := by decide +kernel
theorem isTy_int : isTy "int" ["bool"] = some false ∧ isTy "int" ["str"] = some false ∧ isTy "int" ["tuple", "list"] = some false ∧ isTy "int" ["tuple"] = some false := by decide +kernel
theorem isTy_str : isTy "str" ["bool"] = some false ∧ isTy "str" ["str"] = some true ∧ isTy "str" ["tuple", "list"] = some false ∧ isTy "str" ["tuple"] = some false := by decide +kernel
theorem isTy_non : isTy "NoneType" ["bool"] = some false ∧ isTy "NoneType" ["str"] = some false ∧ isTy "NoneType" ["tuple", "list"] = some false ∧ isTy "NoneType" ["tuple"] = some false := by decide +kernel
theorem isTy_tup : isTy "tuple" ["bool"] = some false ∧ isTy "tuple" ["str"] = some false ∧ isTy "tuple" ["tuple", "list"] = some true ∧ isTy "tuple" ["tuple"] = some true := by decide +kernel
theorem isTy_lst : isTy "list" ["bool"] = some false ∧ isTy "list" ["str"] = some false ∧ isTy "list" ["tuple", "list"] = some true ∧ isTy "list" ["tuple"] = some false := by decide +kernel
theorem isi_ok {ts : List String} {i : Nat} {ρ : Rho} {ah : List AO} {d : D} {t : String} {b : Bool} (h : ρ[i]? = some (some d)) (ht : tyOf ah d = some t) (hb : isTy t ts = some b) : cIsi ts (cVar i) ρ ah = .ok (.bl b) ah := by
  unfold cIsi
  rw [ap_var, h]
  simp only [R.bind_ok, ht, hb]
theorem dNe_bb {a : Bool} {ah : List AO} : dNe (.bl a) (.bl a) ah = .ok (.bl false) ah := by simp [dNe, eqOk, look, D.nr, D.dep, D.eq]
theorem ap_or {f g : SE} {ρ : Rho} {ah : List AO} : cOr f g ρ ah = (f ρ ah).bind fun d ah1 => onB d (.ok (.bl true) ah1) (g ρ ah1) := rfl
mutual
theorem D.eq_self : ∀ d : D, d.nr = true → D.eq d d = true
  | .non, _ => by simp [D.eq]
  | .bl b, _ => by simp [D.eq]
  | .int i, _ => by simp [D.eq]
  | .str x, _ => by simp [D.eq]
  | .lst ds, h => by rw [D.eq]; exact D.eqs_self ds (by simpa [D.nr] using h)
  | .tup ds, h => by rw [D.eq]; exact D.eqs_self ds (by simpa [D.nr] using h)
  | .ref n, h => by simp [D.nr] at h
  | .scr n, h => by simp [D.nr] at h
theorem D.eqs_self : ∀ ds : List D, D.nrs ds = true → D.eqs ds ds = true
  | [], _ => by simp [D.eqs]
  | d :: ds, h => by
    simp only [D.nrs, Bool.and_eq_true] at h
    rw [D.eqs, D.eq_self d h.1, D.eqs_self ds h.2]; rfl
end
/-- what follows in a turn of alike -/
noncomputable def r_alike : SS :=
  (sSeq (sIf (cOr (cOp dNe (cIsi ["bool"] (cVar 4)) (cIsi ["bool"] (cVar 5))) (cOp dNe (cIsi ["str"] (cVar 4)) (cIsi ["str"] (cVar 5)))) (sRet (cC (.bl false))) sNext)
    (sSeq (sIf (cOp dNe (cIsi ["tuple", "list"] (cVar 4)) (cIsi ["tuple", "list"] (cVar 5))) (sRet (cC (.bl false))) sNext)
    (sIf (cIsi ["tuple", "list"] (cVar 4)) (sSeq (sIf (cOr (cOp dNe (cIsi ["tuple"] (cVar 4)) (cIsi ["tuple"] (cVar 5))) (cOp dNe (cBi bLen (aCons (cVar 4) aNil)) (cBi bLen (aCons (cVar 5) aNil)))) (sRet (cC (.bl false))) sNext)
    (sDrop (cMtL mExtend (cVar 2) (aCons (cLZip (aCons (cVar 4) (aCons (cVar 5) aNil))) aNil)))) (sIf (cOp dNe (cVar 4) (cVar 5)) (sRet (cC (.bl false))) sNext))))
section
variable {ρ : Rho} {ah : List AO} {pairs : List D} {d : D} {x y at_ : Option D}
theorem alike_flat {t : String} {b1 b2 : Bool} (h4 : ρ[4]? = some (some d)) (h5 : ρ[5]? = some (some d)) (ht : tyOf ah d = some t) (i1 : isTy t ["bool"] = some b1) (i2 : isTy t ["str"] = some b2) (i3 : isTy t ["tuple", "list"] = some false) (he : dNe d d ah = .ok (.bl false) ah) :
    r_alike ρ ah = .nx ρ ah := by
  unfold r_alike
  simp only [ap_var, ap_c, ap_op, ap_nil, ap_cons, ap_bi, ap_seq, ap_if, ap_asg, ap_nm, ap_ret, ap_next, ap_drop, ap_sl, ap_oN, ap_oS, ap_setIx, ap_augIx, ap_lst, R.bind_ok, R.bind_exc, R.bind_stuck, R.out_ok, R.out_exc, R.out_stuck, Out.seq_nx, Out.seq_rt, onBO_true, onBO_false, onB_true, onB_false, endF_rt, endF_nx, dEq_ii, dNe_ii, dLt_ii, dGt_ii, dLe_ii, dGe_ii, dAdd_ii, bInt_i, List.getElem?_cons_zero, List.getElem?_cons_succ, List.set_cons_zero, List.set_cons_succ, List.map_cons, List.map_nil, List.length_cons, List.length_nil, List.replicate, List.cons_append, List.nil_append, Nat.reduceAdd, Nat.reduceSub, ap_or, isi_ok h4 ht i1, isi_ok h5 ht i1, isi_ok h4 ht i2, isi_ok h5 ht i2, isi_ok h4 ht i3, isi_ok h5 ht i3, dNe_bb, h4, h5, he]
theorem alike_deep {t : String} {b1 b2 b4 : Bool} {ds : List D} (h2 : ρ[2]? = some (some (.ref 0))) (h4 : ρ[4]? = some (some d)) (h5 : ρ[5]? = some (some d)) (ht : tyOf [.lst pairs] d = some t) (i1 : isTy t ["bool"] = some b1) (i2 : isTy t ["str"] = some b2) (i3 : isTy t ["tuple", "list"] = some true) (i4 : isTy t ["tuple"] = some b4)
    (hl : bLen [d] [.lst pairs] = .ok (.int (ds.length : Nat)) [.lst pairs]) (hi : itemsOf [.lst pairs] d = some ds) (hz : pairs.length + ds.length ≤ sizeLine) :
    r_alike ρ [.lst pairs] = .nx ρ [.lst (pairs ++ ds.map fun z => .tup [z, z])] := by
  have e1 : cLZip (aCons (cVar 4) (aCons (cVar 5) aNil)) ρ [.lst pairs] = .ok (.lst (ds.map fun z => .tup [z, z])) [.lst pairs] := by
    unfold cLZip
    simp only [ap_var, ap_c, ap_op, ap_nil, ap_cons, ap_bi, ap_seq, ap_if, ap_asg, ap_nm, ap_ret, ap_next, ap_drop, ap_sl, ap_oN, ap_oS, ap_setIx, ap_augIx, ap_lst, R.bind_ok, R.bind_exc, R.bind_stuck, R.out_ok, R.out_exc, R.out_stuck, Out.seq_nx, Out.seq_rt, onBO_true, onBO_false, onB_true, onB_false, endF_rt, endF_nx, dEq_ii, dNe_ii, dLt_ii, dGt_ii, dLe_ii, dGe_ii, dAdd_ii, bInt_i, List.getElem?_cons_zero, List.getElem?_cons_succ, List.set_cons_zero, List.set_cons_succ, List.map_cons, List.map_nil, List.length_cons, List.length_nil, List.replicate, List.cons_append, List.nil_append, Nat.reduceAdd, Nat.reduceSub, h4, h5, hi, zip_self]
  have e2 : cMtL mExtend (cVar 2) (aCons (cLZip (aCons (cVar 4) (aCons (cVar 5) aNil))) aNil) ρ [.lst pairs] = .ok .non [.lst (pairs ++ ds.map fun z => .tup [z, z])] := by
    unfold cMtL
    simp only [ap_var, ap_c, ap_op, ap_nil, ap_cons, ap_bi, ap_seq, ap_if, ap_asg, ap_nm, ap_ret, ap_next, ap_drop, ap_sl, ap_oN, ap_oS, ap_setIx, ap_augIx, ap_lst, R.bind_ok, R.bind_exc, R.bind_stuck, R.out_ok, R.out_exc, R.out_stuck, Out.seq_nx, Out.seq_rt, onBO_true, onBO_false, onB_true, onB_false, endF_rt, endF_nx, dEq_ii, dNe_ii, dLt_ii, dGt_ii, dLe_ii, dGe_ii, dAdd_ii, bInt_i, List.getElem?_cons_zero, List.getElem?_cons_succ, List.set_cons_zero, List.set_cons_succ, List.map_cons, List.map_nil, List.length_cons, List.length_nil, List.replicate, List.cons_append, List.nil_append, Nat.reduceAdd, Nat.reduceSub, h2, onLst_ref 0 [.lst pairs] pairs _ rfl, e1, mExtend]
    rw [if_pos (by rw [List.length_map]; exact hz)]
  have e3 : (((ds.length : Nat) : Int) == ((ds.length : Nat) : Int)) = true := beq_self_eq_true _
  unfold r_alike
  simp only [ap_var, ap_c, ap_op, ap_nil, ap_cons, ap_bi, ap_seq, ap_if, ap_asg, ap_nm, ap_ret, ap_next, ap_drop, ap_sl, ap_oN, ap_oS, ap_setIx, ap_augIx, ap_lst, R.bind_ok, R.bind_exc, R.bind_stuck, R.out_ok, R.out_exc, R.out_stuck, Out.seq_nx, Out.seq_rt, onBO_true, onBO_false, onB_true, onB_false, endF_rt, endF_nx, dEq_ii, dNe_ii, dLt_ii, dGt_ii, dLe_ii, dGe_ii, dAdd_ii, bInt_i, List.getElem?_cons_zero, List.getElem?_cons_succ, List.set_cons_zero, List.set_cons_succ, List.map_cons, List.map_nil, List.length_cons, List.length_nil, List.replicate, List.cons_append, List.nil_append, Nat.reduceAdd, Nat.reduceSub, ap_or, isi_ok h4 ht i1, isi_ok h5 ht i1, isi_ok h4 ht i2, isi_ok h5 ht i2, isi_ok h4 ht i3, isi_ok h5 ht i3, isi_ok h4 ht i4, isi_ok h5 ht i4, dNe_bb, h4, h5, hl, e2, e3, Bool.not_true]
theorem alike_turn (h2 : ρ[2]? = some (some (.ref 0))) (h4 : ρ[4]? = some (some d)) (h5 : ρ[5]? = some (some d)) (hn : d.nr = true) (hd : d.dep ≤ 64) (hz : pairs.length + (kids d).length ≤ sizeLine) : r_alike ρ [.lst pairs] = .nx ρ [.lst (pairs ++ kids d)] := by
  have flat : ∀ ah : List AO, look ah d = d → dNe d d ah = .ok (.bl false) ah := fun ah e => by
    unfold dNe eqOk
    rw [e, D.eq_self d hn, hn, Nat.min_self]
    simp [hd]
  cases d with
  | non => rw [show kids .non = [] from rfl, List.append_nil]; exact alike_flat h4 h5 rfl isTy_non.1 isTy_non.2.1 isTy_non.2.2.1 (flat _ rfl)
  | bl b => rw [show kids (.bl b) = [] from rfl, List.append_nil]; exact alike_flat h4 h5 rfl isTy_bool.1 isTy_bool.2.1 isTy_bool.2.2.1 (flat _ rfl)
  | int b => rw [show kids (.int b) = [] from rfl, List.append_nil]; exact alike_flat h4 h5 rfl isTy_int.1 isTy_int.2.1 isTy_int.2.2.1 (flat _ rfl)
  | str b => rw [show kids (.str b) = [] from rfl, List.append_nil]; exact alike_flat h4 h5 rfl isTy_str.1 isTy_str.2.1 isTy_str.2.2.1 (flat _ rfl)
  | tup ds => exact alike_deep h2 h4 h5 rfl isTy_tup.1 isTy_tup.2.1 isTy_tup.2.2.1 isTy_tup.2.2.2 rfl rfl (by simpa [kids] using hz)
  | lst ds => exact alike_deep h2 h4 h5 rfl isTy_lst.1 isTy_lst.2.1 isTy_lst.2.2.1 isTy_lst.2.2.2 rfl rfl (by simpa [kids] using hz)
  | ref n => simp [D.nr] at hn
  | scr n => simp [D.nr] at hn
end
mutual
def D.sz : D → Nat
  | .tup ds => D.szs ds + 1
  | .lst ds => D.szs ds + 1
  | _ => 1
def D.szs : List D → Nat
  | [] => 0
  | d :: ds => D.sz d + D.szs ds
end
theorem szs_append : ∀ xs ys : List D, D.szs (xs ++ ys) = D.szs xs + D.szs ys
  | [], ys => by simp [D.szs]
  | x :: xs, ys => by simp only [List.cons_append, D.szs, szs_append xs ys]; omega
theorem len_le_szs : ∀ xs : List D, xs.length ≤ D.szs xs
  | [] => Nat.zero_le _
  | x :: xs => by
    have h := len_le_szs xs
    have : 1 ≤ D.sz x := by cases x <;> simp [D.sz]
    simp only [D.szs, List.length_cons]; omega
/-- the things still to be looked at -/
def subs : D → List D
  | .tup ds => ds
  | .lst ds => ds
  | _ => []
theorem kids_subs (d : D) : kids d = (subs d).map fun z => .tup [z, z] := by cases d <;> rfl
theorem sz_subs (d : D) : D.szs (subs d) + 1 = D.sz d := by cases d <;> simp [subs, D.sz, D.szs]
theorem nr_subs {d : D} (h : d.nr = true) : D.nrs (subs d) = true := by cases d <;> simp_all [subs, D.nr, D.nrs]
theorem dep_subs {d z : D} (h : z ∈ subs d) : z.dep ≤ d.dep := by
  have key : ∀ (ds : List D), z ∈ ds → z.dep ≤ D.deps ds := fun ds => by
    induction ds with
    | nil => intro h; cases h
    | cons a ds ih =>
      intro h
      rw [D.deps]
      rcases List.mem_cons.mp h with q | q
      · rw [q]; exact Nat.le_max_left _ _
      · exact Nat.le_trans (ih q) (Nat.le_max_right _ _)
  cases d with
  | tup ds => rw [D.dep]; exact Nat.le_succ_of_le (key ds h)
  | lst ds => rw [D.dep]; exact Nat.le_succ_of_le (key ds h)
  | _ => cases h
theorem nrs_mem : ∀ {ds : List D} {z : D}, D.nrs ds = true → z ∈ ds → z.nr = true
  | d :: ds, z, h, hz => by
    simp only [D.nrs, Bool.and_eq_true] at h
    rcases List.mem_cons.mp hz with q | q
    · rw [q]; exact h.1
    · exact nrs_mem h.2 q
def prs (zs : List D) : List D := zs.map fun z => .tup [z, z]
noncomputable def t_alike : SE := cOp dLt (cVar 3) (cBi bLen (aCons (cVar 2) aNil))
noncomputable def b_alike : SS := sSeq (sAsg (cOp dIx (cVar 2) (cVar 3)) (gTp 2 (gsCons (gNm 4) (gsCons (gNm 5) gsNil)))) (sSeq (sAug 3 dAddI (cC (.int 1))) r_alike)
theorem t_run {x y r4 r5 : Option D} {i : Nat} {zs : List D} : t_alike [x, y, some (.ref 0), some (.int (i : Nat)), r4, r5] [.lst (prs zs)] = .ok (.bl (decide (i < zs.length))) [.lst (prs zs)] := by
  unfold t_alike
  have e : bLen [.ref 0] [.lst (prs zs)] = .ok (.int ((prs zs).length : Nat)) [.lst (prs zs)] := rfl
  simp only [ap_var, ap_c, ap_op, ap_nil, ap_cons, ap_bi, ap_seq, ap_if, ap_asg, ap_nm, ap_ret, ap_next, ap_drop, ap_sl, ap_oN, ap_oS, ap_setIx, ap_augIx, ap_lst, R.bind_ok, R.bind_exc, R.bind_stuck, R.out_ok, R.out_exc, R.out_stuck, Out.seq_nx, Out.seq_rt, onBO_true, onBO_false, onB_true, onB_false, endF_rt, endF_nx, dEq_ii, dNe_ii, dLt_ii, dGt_ii, dLe_ii, dGe_ii, dAdd_ii, bInt_i, List.getElem?_cons_zero, List.getElem?_cons_succ, List.set_cons_zero, List.set_cons_succ, List.map_cons, List.map_nil, List.length_cons, List.length_nil, List.replicate, List.cons_append, List.nil_append, Nat.reduceAdd, Nat.reduceSub, e]
  have : (prs zs).length = zs.length := by unfold prs; rw [List.length_map]
  rw [this]
  congr 3
  apply propext
  omega
theorem b_run {x y r4 r5 : Option D} {i : Nat} {zs : List D} {z : D} (hz : zs[i]? = some z) (hn : z.nr = true) (hd : z.dep ≤ 64) (hl : zs.length + (subs z).length ≤ sizeLine) :
    b_alike [x, y, some (.ref 0), some (.int (i : Nat)), r4, r5] [.lst (prs zs)] = .nx [x, y, some (.ref 0), some (.int ((i + 1 : Nat) : Int)), some z, some z] [.lst (prs (zs ++ subs z))] := by
  have hi : i < zs.length := by
    rcases Nat.lt_or_ge i zs.length with q | q
    · exact q
    · rw [List.getElem?_eq_none q] at hz; cases hz
  have e1 : dIx (.ref 0) (.int (i : Nat)) [.lst (prs zs)] = .ok (.tup [z, z]) [.lst (prs zs)] := by
    have h1 : atI (prs zs) ((i : Nat) : Int) = some (.tup [z, z]) := by
      unfold atI ixN
      rw [if_pos (by omega), if_pos (by unfold prs; rw [List.length_map]; omega)]
      show (prs zs)[((i : Nat) : Int).toNat]? = _
      unfold prs
      rw [Int.toNat_natCast, List.getElem?_map, hz]; rfl
    show ret? (atI (prs zs) ((i : Nat) : Int)) _ = _
    rw [h1]; rfl
  have e2 : gTp 2 (gsCons (gNm 4) (gsCons (gNm 5) gsNil)) (.tup [z, z]) [x, y, some (.ref 0), some (.int (i : Nat)), r4, r5] = some [x, y, some (.ref 0), some (.int (i : Nat)), some z, some z] := rfl
  have e3 : sAug 3 dAddI (cC (.int 1)) [x, y, some (.ref 0), some (.int (i : Nat)), some z, some z] [.lst (prs zs)] = .nx [x, y, some (.ref 0), some (.int ((i + 1 : Nat) : Int)), some z, some z] [.lst (prs zs)] := by
    unfold sAug
    simp only [ap_var, ap_c, ap_op, ap_nil, ap_cons, ap_bi, ap_seq, ap_if, ap_asg, ap_nm, ap_ret, ap_next, ap_drop, ap_sl, ap_oN, ap_oS, ap_setIx, ap_augIx, ap_lst, R.bind_ok, R.bind_exc, R.bind_stuck, R.out_ok, R.out_exc, R.out_stuck, Out.seq_nx, Out.seq_rt, onBO_true, onBO_false, onB_true, onB_false, endF_rt, endF_nx, dEq_ii, dNe_ii, dLt_ii, dGt_ii, dLe_ii, dGe_ii, dAdd_ii, bInt_i, List.getElem?_cons_zero, List.getElem?_cons_succ, List.set_cons_zero, List.set_cons_succ, List.map_cons, List.map_nil, List.length_cons, List.length_nil, List.replicate, List.cons_append, List.nil_append, Nat.reduceAdd, Nat.reduceSub, addI_ii]
    rfl
  have e4 : r_alike [x, y, some (.ref 0), some (.int ((i + 1 : Nat) : Int)), some z, some z] [.lst (prs zs)] = .nx [x, y, some (.ref 0), some (.int ((i + 1 : Nat) : Int)), some z, some z] [.lst (prs zs ++ kids z)] :=
    alike_turn rfl rfl rfl hn hd (by unfold prs; rw [kids_subs, List.length_map, List.length_map]; exact hl)
  have e5 : prs zs ++ kids z = prs (zs ++ subs z) := by unfold prs; rw [kids_subs, List.map_append]
  unfold b_alike
  simp only [ap_var, ap_c, ap_op, ap_nil, ap_cons, ap_bi, ap_seq, ap_if, ap_asg, ap_nm, ap_ret, ap_next, ap_drop, ap_sl, ap_oN, ap_oS, ap_setIx, ap_augIx, ap_lst, R.bind_ok, R.bind_exc, R.bind_stuck, R.out_ok, R.out_exc, R.out_stuck, Out.seq_nx, Out.seq_rt, onBO_true, onBO_false, onB_true, onB_false, endF_rt, endF_nx, dEq_ii, dNe_ii, dLt_ii, dGt_ii, dLe_ii, dGe_ii, dAdd_ii, bInt_i, List.getElem?_cons_zero, List.getElem?_cons_succ, List.set_cons_zero, List.set_cons_succ, List.map_cons, List.map_nil, List.length_cons, List.length_nil, List.replicate, List.cons_append, List.nil_append, Nat.reduceAdd, Nat.reduceSub, e1, e2, e3, e4, e5]
theorem alike_loop {x y : Option D} : ∀ (M : Nat) (zs : List D) (i : Nat) (r4 r5 : Option D), D.szs (zs.drop i) = M → i ≤ zs.length → i + M ≤ sizeLine → (∀ z ∈ zs.drop i, z.nr = true ∧ z.dep ≤ 64) →
    ∃ (r4' r5' : Option D) (zs' : List D) (j : Nat), sWhile t_alike b_alike [x, y, some (.ref 0), some (.int (i : Nat)), r4, r5] [.lst (prs zs)] = .nx [x, y, some (.ref 0), some (.int (j : Nat)), r4', r5'] [.lst (prs zs')] :=
  by
    intro M
    induction M using Nat.strongRecOn with
    | ind M ih =>
    intro zs i r4 r5 hM hi hB hz
    rw [sWhile_eq]
    unfold whileStep
    rw [t_run]
    by_cases hlt : i < zs.length
    · rw [decide_eq_true hlt]
      have ed : zs.drop i = zs[i] :: zs.drop (i + 1) := List.drop_eq_getElem_cons hlt
      have hm := hz zs[i] (by rw [ed]; exact List.mem_cons_self)
      have hs := sz_subs zs[i]
      have hlen := len_le_szs (zs.drop i)
      have hlen2 := len_le_szs (subs zs[i])
      rw [ed] at hM
      simp only [D.szs] at hM
      have hlen3 := len_le_szs (zs.drop (i + 1))
      rw [List.length_drop] at hlen3
      have hb := b_run (x := x) (y := y) (r4 := r4) (r5 := r5) (List.getElem?_eq_getElem hlt) hm.1 hm.2 (by omega)
      simp only [R.out_ok, onBO_true, hb]
      have hd : (zs ++ subs zs[i]).drop (i + 1) = zs.drop (i + 1) ++ subs zs[i] := by
        rw [List.drop_append_of_le_length (by omega)]
      exact ih (M - 1) (by omega) (zs ++ subs zs[i]) (i + 1) (some zs[i]) (some zs[i]) (by rw [hd, szs_append]; omega) (by rw [List.length_append]; omega) (by omega) fun z hzm => by
        rw [hd] at hzm
        rcases List.mem_append.mp hzm with q | q
        · exact hz z (by rw [ed]; exact List.mem_cons_of_mem _ q)
        · exact ⟨nrs_mem (nr_subs hm.1) q, Nat.le_trans (dep_subs q) hm.2⟩
    · rw [decide_eq_false hlt]
      exact ⟨r4, r5, zs, i, rfl⟩
theorem alike_run {d : D} (hn : d.nr = true) (hd : d.dep ≤ 64) (hs : D.sz d ≤ sizeLine) : ∃ ah, F_alike [d, d] [] = .ok (.bl true) ah := by
  obtain ⟨r4, r5, zs, j, e⟩ := alike_loop (x := some d) (y := some d) (D.sz d) [d] 0 none none (by simp [D.szs]) (by simp) (by omega) (by simpa using ⟨hn, hd⟩)
  refine ⟨[.lst (prs zs)], ?_⟩
  have e0 : sPar 2 3 (aCons (cLstM (aCons (cTup (aCons (cVar 0) (aCons (cVar 1) aNil))) aNil)) (aCons (cC (.int 0)) aNil)) [some d, some d, none, none, none, none] [] = .nx [some d, some d, some (.ref 0), some (.int ((0 : Nat) : Int)), none, none] [.lst (prs [d])] := by
    have h2 : (2 : Nat) ≤ sizeLine := by decide
    have h1 : (1 : Nat) ≤ sizeLine := by decide
    unfold sPar cLstM cTup
    simp only [ap_var, ap_c, ap_op, ap_nil, ap_cons, ap_bi, ap_seq, ap_if, ap_asg, ap_nm, ap_ret, ap_next, ap_drop, ap_sl, ap_oN, ap_oS, ap_setIx, ap_augIx, ap_lst, R.bind_ok, R.bind_exc, R.bind_stuck, R.out_ok, R.out_exc, R.out_stuck, Out.seq_nx, Out.seq_rt, onBO_true, onBO_false, onB_true, onB_false, endF_rt, endF_nx, dEq_ii, dNe_ii, dLt_ii, dGt_ii, dLe_ii, dGe_ii, dAdd_ii, bInt_i, List.getElem?_cons_zero, List.getElem?_cons_succ, List.set_cons_zero, List.set_cons_succ, List.map_cons, List.map_nil, List.length_cons, List.length_nil, List.replicate, List.cons_append, List.nil_append, Nat.reduceAdd, Nat.reduceSub, if_pos h2, if_pos h1]
    rfl
  show endF (sSeq (sPar 2 3 (aCons (cLstM (aCons (cTup (aCons (cVar 0) (aCons (cVar 1) aNil))) aNil)) (aCons (cC (.int 0)) aNil))) (sSeq (sWhile t_alike b_alike) (sRet (cC (.bl true)))) [some d, some d, none, none, none, none] []) = _
  simp only [ap_var, ap_c, ap_op, ap_nil, ap_cons, ap_bi, ap_seq, ap_if, ap_asg, ap_nm, ap_ret, ap_next, ap_drop, ap_sl, ap_oN, ap_oS, ap_setIx, ap_augIx, ap_lst, R.bind_ok, R.bind_exc, R.bind_stuck, R.out_ok, R.out_exc, R.out_stuck, Out.seq_nx, Out.seq_rt, onBO_true, onBO_false, onB_true, onB_false, endF_rt, endF_nx, dEq_ii, dNe_ii, dLt_ii, dGt_ii, dLe_ii, dGe_ii, dAdd_ii, bInt_i, List.getElem?_cons_zero, List.getElem?_cons_succ, List.set_cons_zero, List.set_cons_succ, List.map_cons, List.map_nil, List.length_cons, List.length_nil, List.replicate, List.cons_append, List.nil_append, Nat.reduceAdd, Nat.reduceSub, e0, e]
/-! ### loops -/
theorem compL_run {P : Nat → List D → List AO → Prop} {g : SG} {f : SE} {ρ : Rho} {items : List D} :
    ∀ (k i : Nat) (acc : List D) (ah : List AO), items.length - i = k → P i acc ah →
      (∀ (i : Nat) (d : D) (acc : List D) (ah : List AO), items[i]? = some d → P i acc ah → ∃ ρ1 y ah2, g d ρ = some ρ1 ∧ f ρ1 ah = .ok y ah2 ∧ P (i + 1) (acc ++ [y]) ah2) →
      ∃ acc' ah', compL [] g cYes f ρ (items.drop i) acc ah = .ok (.lst acc') ah' ∧ P (max i items.length) acc' ah' := by
  intro k
  induction k with
  | zero =>
    intro i acc ah hk hP _
    rw [List.drop_eq_nil_of_le (by omega)]
    refine ⟨acc, ah, ?_, ?_⟩
    · unfold compL; rw [if_pos (heldOk_nil ah)]
    · rw [Nat.max_eq_left (by omega)]; exact hP
  | succ k ih =>
    intro i acc ah hk hP hs
    have hlt : i < items.length := by omega
    obtain ⟨ρ1, y, ah2, e1, e2, hP2⟩ := hs i items[i] acc ah (List.getElem?_eq_getElem hlt) hP
    obtain ⟨acc', ah', e3, hP3⟩ := ih (i + 1) (acc ++ [y]) ah2 (by omega) hP2 hs
    refine ⟨acc', ah', ?_, ?_⟩
    · rw [List.drop_eq_getElem_cons hlt]
      unfold compL
      rw [if_pos (heldOk_nil ah), e1]
      show (((R.ok (D.bl true) ah : R D).nox).bind _) = _
      rw [R.nox_ok, R.bind_ok, onB_true, e2, R.nox_ok, R.bind_ok]
      exact e3
    · rw [Nat.max_eq_right (by omega)] at hP3 ⊢; exact hP3
theorem compL_all {P : Nat → List D → List AO → Prop} {g : SG} {f : SE} {ρ : Rho} {items : List D} {ah : List AO} (h0 : P 0 [] ah)
    (hs : ∀ (i : Nat) (d : D) (acc : List D) (ah : List AO), items[i]? = some d → P i acc ah → ∃ ρ1 y ah2, g d ρ = some ρ1 ∧ f ρ1 ah = .ok y ah2 ∧ P (i + 1) (acc ++ [y]) ah2) :
    ∃ acc' ah', compL [] g cYes f ρ items [] ah = .ok (.lst acc') ah' ∧ P items.length acc' ah' := by
  obtain ⟨acc', ah', e, h⟩ := compL_run (P := P) (items := items) (items.length - 0) 0 [] ah rfl h0 hs
  rw [Nat.max_eq_right (Nat.zero_le _)] at h
  exact ⟨acc', ah', e, h⟩
theorem forL_run {P : Nat → Rho → List AO → Prop} {g : SG} {b : SS} {items : List D} :
    ∀ (k i : Nat) (ρ : Rho) (ah : List AO), items.length - i = k → P i ρ ah →
      (∀ (i : Nat) (d : D) (ρ : Rho) (ah : List AO), items[i]? = some d → P i ρ ah → ∃ ρ1 ρ2 ah2, g d ρ = some ρ1 ∧ b ρ1 ah = .nx ρ2 ah2 ∧ P (i + 1) ρ2 ah2) →
      ∃ ρ' ah', forL [] g b (items.drop i) ρ ah = .nx ρ' ah' ∧ P (max i items.length) ρ' ah' := by
  intro k
  induction k with
  | zero =>
    intro i ρ ah hk hP _
    rw [List.drop_eq_nil_of_le (by omega)]
    refine ⟨ρ, ah, ?_, ?_⟩
    · unfold forL; exact if_pos (heldOk_nil ah)
    · rw [Nat.max_eq_left (by omega)]; exact hP
  | succ k ih =>
    intro i ρ ah hk hP hs
    have hlt : i < items.length := by omega
    obtain ⟨ρ1, ρ2, ah2, e1, e2, hP2⟩ := hs i items[i] ρ ah (List.getElem?_eq_getElem hlt) hP
    obtain ⟨ρ', ah', e3, hP3⟩ := ih (i + 1) ρ2 ah2 (by omega) hP2 hs
    refine ⟨ρ', ah', ?_, ?_⟩
    · rw [List.drop_eq_getElem_cons hlt]
      unfold forL
      rw [if_pos (heldOk_nil ah), e1]
      simp only [e2]
      exact e3
    · rw [Nat.max_eq_right (by omega)] at hP3 ⊢; exact hP3
theorem forL_all {P : Nat → Rho → List AO → Prop} {g : SG} {b : SS} {items : List D} {ρ : Rho} {ah : List AO} (h0 : P 0 ρ ah)
    (hs : ∀ (i : Nat) (d : D) (ρ : Rho) (ah : List AO), items[i]? = some d → P i ρ ah → ∃ ρ1 ρ2 ah2, g d ρ = some ρ1 ∧ b ρ1 ah = .nx ρ2 ah2 ∧ P (i + 1) ρ2 ah2) :
    ∃ ρ' ah', forL [] g b items ρ ah = .nx ρ' ah' ∧ P items.length ρ' ah' := by
  obtain ⟨ρ', ah', e, h⟩ := forL_run (P := P) (items := items) (items.length - 0) 0 ρ ah rfl h0 hs
  rw [Nat.max_eq_right (Nat.zero_le _)] at h
  exact ⟨ρ', ah', e, h⟩
def absI (i : Int) : Int := if i < 0 then -i else i
theorem nrs_ints : ∀ l : List Int, D.nrs (l.map D.int) = true
  | [] => rfl
  | i :: l => by rw [List.map_cons, D.nrs, nrs_ints l]; rfl
theorem nrs_bag {m s c : Int} {cells : List Int} : D.nrs (bagD m s c cells) = true := by
  unfold bagD
  simp [D.nrs, D.nr, nrs_ints]
theorem BagOk.nrs {N : Int} {xs : List D} (h : BagOk N xs) : D.nrs xs = true := by
  obtain ⟨m, s, c, cells, rfl, _⟩ := h.ex
  exact nrs_bag
theorem bag_run {ns : List Int} (h : ns.length ≤ 63) : ∃ xs, F_bag [.scr ns] [] = .ok (.ref 0) [.lst xs] ∧ BagOk 0 xs := by
  have e1 : cSl (cVar 0) oNone (oSome (cC (.int 63))) [some (.scr ns), none] [] = .ok (.lst (ns.map .int)) [] := by
    have : cut (ns.map D.int) none (some 63) = ns.map D.int := cut_whole ⟨rfl, by
      rw [List.length_map]
      have e : HT.sIx ns.length ns.length (some ((63 : Nat) : Int)) = min 63 ns.length := HT.sIx_nat _ _ _
      show HT.sIx ns.length ns.length (some ((63 : Nat) : Int)) = ns.length
      rw [e]
      show min 63 ns.length = ns.length
      omega⟩
    simp only [ap_var, ap_c, ap_op, ap_nil, ap_cons, ap_bi, ap_seq, ap_if, ap_asg, ap_nm, ap_ret, ap_next, ap_drop, ap_sl, ap_oN, ap_oS, ap_setIx, ap_augIx, ap_lst, R.bind_ok, R.bind_exc, R.bind_stuck, R.out_ok, R.out_exc, R.out_stuck, Out.seq_nx, Out.seq_rt, onBO_true, onBO_false, onB_true, onB_false, endF_rt, endF_nx, dEq_ii, dNe_ii, dLt_ii, dGt_ii, dLe_ii, dGe_ii, dAdd_ii, bInt_i, List.getElem?_cons_zero, List.getElem?_cons_succ, List.set_cons_zero, List.set_cons_succ, List.map_cons, List.map_nil, List.length_cons, List.length_nil, List.replicate, List.cons_append, List.nil_append, Nat.reduceAdd, Nat.reduceSub]
    show R.ok (D.lst (cut (ns.map D.int) none (some 63))) [] = _
    rw [this]
  obtain ⟨acc, ah, e2, hacc, hah⟩ := compL_all (g := gNm 1) (f := cBi bAbs (aCons (cVar 1) aNil)) (ρ := [some (.scr ns), none]) (items := ns.map D.int) (ah := []) (P := fun i acc ah => acc = ((ns.take i).map absI).map D.int ∧ ah = []) ⟨rfl, rfl⟩ (fun i d acc ah hd hP => by
    obtain ⟨rfl, rfl⟩ := hP
    rw [List.getElem?_map] at hd
    cases hn : ns[i]? with
    | none => rw [hn] at hd; cases hd
    | some a =>
      rw [hn] at hd; cases hd
      refine ⟨[some (.scr ns), some (.int a)], .int (absI a), [], rfl, ?_, ?_, rfl⟩
      · simp only [ap_var, ap_c, ap_op, ap_nil, ap_cons, ap_bi, ap_seq, ap_if, ap_asg, ap_nm, ap_ret, ap_next, ap_drop, ap_sl, ap_oN, ap_oS, ap_setIx, ap_augIx, ap_lst, R.bind_ok, R.bind_exc, R.bind_stuck, R.out_ok, R.out_exc, R.out_stuck, Out.seq_nx, Out.seq_rt, onBO_true, onBO_false, onB_true, onB_false, endF_rt, endF_nx, dEq_ii, dNe_ii, dLt_ii, dGt_ii, dLe_ii, dGe_ii, dAdd_ii, bInt_i, List.getElem?_cons_zero, List.getElem?_cons_succ, List.set_cons_zero, List.set_cons_succ, List.map_cons, List.map_nil, List.length_cons, List.length_nil, List.replicate, List.cons_append, List.nil_append, Nat.reduceAdd, Nat.reduceSub]
        rfl
      · rw [List.take_add_one, hn, List.map_append, List.map_append]; rfl)
  subst hah
  rw [List.length_map, List.take_of_length_le (Nat.le_refl _)] at hacc
  subst hacc
  have e3 : cLc (iOf (cSl (cVar 0) oNone (oSome (cC (.int 63))))) (gNm 1) cYes (cBi bAbs (aCons (cVar 1) aNil)) [1] [some (.scr ns), none] [] = .ok (.lst ((ns.map absI).map D.int)) [] := by
    unfold cLc iOf
    rw [e1]
    exact e2
  refine ⟨bagD 0 1234567891 0 (ns.map absI), ?_, ⟨0, 1234567891, 0, ns.map absI, rfl, by decide, by decide, by decide, by decide, by decide, by rw [List.length_map]; exact h, fun x hx => ?_⟩⟩
  · unfold F_bag runF s_bag cLstM
    have h4 : (4 : Nat) ≤ sizeLine := by decide
    simp only [ap_var, ap_c, ap_op, ap_nil, ap_cons, ap_bi, ap_seq, ap_if, ap_asg, ap_nm, ap_ret, ap_next, ap_drop, ap_sl, ap_oN, ap_oS, ap_setIx, ap_augIx, ap_lst, R.bind_ok, R.bind_exc, R.bind_stuck, R.out_ok, R.out_exc, R.out_stuck, Out.seq_nx, Out.seq_rt, onBO_true, onBO_false, onB_true, onB_false, endF_rt, endF_nx, dEq_ii, dNe_ii, dLt_ii, dGt_ii, dLe_ii, dGe_ii, dAdd_ii, bInt_i, List.getElem?_cons_zero, List.getElem?_cons_succ, List.set_cons_zero, List.set_cons_succ, List.map_cons, List.map_nil, List.length_cons, List.length_nil, List.replicate, List.cons_append, List.nil_append, Nat.reduceAdd, Nat.reduceSub, e3, if_pos h4]
    rfl
  · obtain ⟨a, _, rfl⟩ := List.mem_map.mp hx
    unfold absI
    split <;> omega
/-! ### calls -/
theorem outB_nr {h : List AO} {d : D} (hd : d.nr = true) : outB h d = d := by
  cases d <;> first | rfl | (simp [D.nr] at hd)
theorem callB_gen {F : FF} {ga : SA} {ρ : Rho} {ah ah1 : List AO} {n i m : Nat} {ds xs ys : List D} {d : D} (hg : ga ρ ah = .ok ds ah1) (hl : ds.length = n) (hi : ds[i]? = some (.ref m)) (hm : ah1[m]? = some (.lst xs)) (hx : D.nrs xs = true)
    (hc : (ds.set i .non).all calmD = true) (hF : F (ds.set i (.ref 0)) [.lst xs] = .ok d [.lst ys]) (hd : d.nr = true) (hy : D.nrs ys = true) : cCallB n i F ga ρ ah = .ok d (ah1.set m (.lst ys)) := by
  unfold cCallB
  rw [hg]
  simp only [R.bind_ok, hl, if_true, hi, hm, hx, hc, Bool.and_self, hF]
  unfold bagR
  simp only [List.getElem?_cons_zero, hy, outB_nr hd, hd, Bool.and_self, if_true]
theorem callB_take {F : FF} (hFt : F = F_take) {ga : SA} {ρ : Rho} {ah ah1 : List AO} {m : Nat} {many N : Int} {xs : List D} (hg : ga ρ ah = .ok [.ref m, .int many] ah1) (hm : ah1[m]? = some (.lst xs)) (hb : BagOk N xs) (hN : N < 2 ^ 60) (h0 : 0 < many) (h1 : many.natAbs.log2 < 9000) :
    ∃ (v : Int) (ys : List D), cCallB 2 0 F ga ρ ah = .ok (.int v) (ah1.set m (.lst ys)) ∧ 0 ≤ v ∧ v < many ∧ BagOk (N + 1) ys := by
  subst hFt
  obtain ⟨v, ys, e, q1, q2, q3⟩ := take_run hb hN h0 h1
  exact ⟨v, ys, callB_gen hg rfl rfl hm hb.nrs rfl e rfl q3.nrs, q1, q2, q3⟩
theorem callP_gen {F : FF} {ga : SA} {ρ : Rho} {ah ah1 h' : List AO} {n : Nat} {ds : List D} {d : D} (hg : ga ρ ah = .ok ds ah1) (hl : ds.length = n) (hc : ds.all calmD = true) (hF : F ds [] = .ok d h') (hd : d.nr = true) : cCallP n F ga ρ ah = .ok d ah1 := by
  unfold cCallP
  rw [hg]
  simp only [R.bind_ok, hl, if_true, snaps_calm hc, hF]
  unfold pureR
  simp [hc, outD_nr hd, outOk, hd]
end Pl

set_option Elab.async false
set_option linter.all false
set_option maxRecDepth 100000
set_option maxHeartbeats 4000000
/-! QPm: more plain laws: drawing, comparing, slices, ranges. -/
namespace Pl
open PySem L2 Qd
theorem BagOk.mono {N M : Int} {xs : List D} (h : BagOk N xs) (hl : N ≤ M) : BagOk M xs := by
  obtain ⟨m, s, c, cells, e, h1, h2, h3, h4, h5, h6⟩ := h.ex
  exact ⟨⟨m, s, c, cells, e, h1, h2, h3, h4, by omega, h6⟩⟩
theorem small_log {a : Int} (h0 : 0 ≤ a) (h : a < 2 ^ 60) : a.natAbs.log2 < 9000 := Nat.lt_trans (log2_le h0 h (by decide)) (by decide)
/-- a draw -/
theorem draw {F : FF} (hF : F = F_take) {ga : SA} {ρ : Rho} {many N : Int} {xs xs1 : List D} (hg : ga ρ [.lst xs] = .ok [.ref 0, .int many] [.lst xs1]) (hb : BagOk N xs1) (hN : N < 2 ^ 59) (h0 : 0 < many) (h1 : many < 2 ^ 60) :
    ∃ (v : Int) (ys : List D), cCallB 2 0 F ga ρ [.lst xs] = .ok (.int v) [.lst ys] ∧ 0 ≤ v ∧ v < many ∧ BagOk (N + 1) ys := by
  obtain ⟨v, ys, e, h⟩ := callB_take hF hg (m := 0) rfl hb (by omega) h0 (small_log (by omega) h1)
  exact ⟨v, ys, e, h⟩
theorem some_run {N : Int} {ds xs : List D} (hb : BagOk N xs) (hN : N < 2 ^ 59) (h0 : 0 < ds.length) (hl : ds.length ≤ sizeLine) : ∃ (j : Nat) (hj : j < ds.length) (ys : List D), F_some [.ref 0, .lst ds] [.lst xs] = .ok ds[j] [.lst ys] ∧ BagOk (N + 1) ys := by
  rw [sizeLine_eq] at hl
  have hg : (aCons (cVar 0) (aCons (cBi bLen (aCons (cVar 1) aNil)) aNil)) [some (.ref 0), some (.lst ds)] [.lst xs] = .ok [.ref 0, .int (ds.length : Nat)] [.lst xs] := rfl
  obtain ⟨v, ys, e, v0, v1, hb2⟩ := draw rfl hg hb hN (by omega) (by omega)
  refine ⟨v.toNat, by omega, ys, ?_, hb2⟩
  have ea : atI ds v = some ds[v.toNat] := by
    unfold atI ixN
    rw [if_pos v0, if_pos v1]
    show ds[v.toNat]? = _
    exact List.getElem?_eq_getElem _
  show endF (sRet (cOp dIx (cVar 1) (cCallB 2 0 F_take (aCons (cVar 0) (aCons (cBi bLen (aCons (cVar 1) aNil)) aNil)))) [some (.ref 0), some (.lst ds)] [.lst xs]) = _
  have ei : dIx (.lst ds) (.int v) [.lst ys] = .ok ds[v.toNat] [.lst ys] := by
    show ret? (atI ds v) _ = _
    rw [ea]; rfl
  simp only [ap_var, ap_c, ap_op, ap_nil, ap_cons, ap_bi, ap_seq, ap_if, ap_asg, ap_nm, ap_ret, ap_next, ap_drop, ap_sl, ap_oN, ap_oS, ap_setIx, ap_augIx, ap_lst, R.bind_ok, R.bind_exc, R.bind_stuck, R.out_ok, R.out_exc, R.out_stuck, Out.seq_nx, Out.seq_rt, onBO_true, onBO_false, onB_true, onB_false, endF_rt, endF_nx, dEq_ii, dNe_ii, dLt_ii, dGt_ii, dLe_ii, dGe_ii, dAdd_ii, bInt_i, List.getElem?_cons_zero, List.getElem?_cons_succ, List.set_cons_zero, List.set_cons_succ, List.map_cons, List.map_nil, List.length_cons, List.length_nil, List.replicate, List.cons_append, List.nil_append, Nat.reduceAdd, Nat.reduceSub, e, ei]
/-- drawing one of a list's -/
theorem draw_some {F : FF} (hF : F = F_some) {ga : SA} {ρ : Rho} {N : Int} {ds xs xs1 : List D} (hg : ga ρ [.lst xs] = .ok [.ref 0, .lst ds] [.lst xs1]) (hb : BagOk N xs1) (hN : N < 2 ^ 59) (h0 : 0 < ds.length) (hl : ds.length ≤ sizeLine) (hn : D.nrs ds = true) :
    ∃ (j : Nat) (hj : j < ds.length) (ys : List D), cCallB 2 0 F ga ρ [.lst xs] = .ok ds[j] [.lst ys] ∧ BagOk (N + 1) ys := by
  subst hF
  obtain ⟨j, hj, ys, e, hb2⟩ := some_run hb hN h0 hl
  have hd : (ds[j]).nr = true := nrs_mem hn (List.getElem_mem hj)
  exact ⟨j, hj, ys, callB_gen (m := 0) hg rfl rfl rfl hb.nrs (by simp [calmD, D.nr, hn]) e hd hb2.nrs, hb2⟩
theorem range1_run {g : SA} {ρ : Rho} {ah ah1 : List AO} {j : Int} (hg : g ρ ah = .ok [.int j] ah1) (h1 : j ≤ 100000) (h0 : -100000 ≤ j) : iRange1 g ρ ah = .ok ⟨rng 0 j.toNat, []⟩ ah1 := by
  have hz : j.toNat ≤ sizeLine := by rw [sizeLine_eq]; omega
  have q : (rngOk j && decide (decide (j.toNat ≤ sizeLine) = true)) = true := by
    unfold rngOk
    simp only [Bool.and_eq_true, decide_eq_true_eq]
    exact ⟨by omega, hz⟩
  unfold iRange1
  rw [hg, R.bind_ok]
  exact if_pos q
theorem range2_ok {g : SA} {ρ : Rho} {ah ah1 : List AO} {i j : Int} (hg : g ρ ah = .ok [.int i, .int j] ah1) (h1 : j ≤ 100000) (h0 : -100000 ≤ j) (g1 : i ≤ 100000) (g0 : -100000 ≤ i) : iRange2 g ρ ah = .ok ⟨rng i (j - i).toNat, []⟩ ah1 := by
  have hz : (j - i).toNat ≤ sizeLine := by rw [sizeLine_eq]; omega
  have q : (rngOk i && rngOk j && decide (decide ((j - i).toNat ≤ sizeLine) = true)) = true := by
    unfold rngOk
    simp only [Bool.and_eq_true, decide_eq_true_eq]
    exact ⟨⟨by omega, by omega⟩, hz⟩
  unfold iRange2
  rw [hg, R.bind_ok]
  exact if_pos q
theorem rng_len (lo : Int) (n : Nat) : (rng lo n).length = n := by simp [rng]
/-! comparing -/
theorem dEq_dd {d e : D} {ah : List AO} (h1 : look ah d = d) (h2 : look ah e = e) (n1 : d.nr = true) (n2 : e.nr = true) (hd : d.dep ≤ 64) : dEq d e ah = .ok (.bl (D.eq d e)) ah := by
  unfold dEq eqOk
  rw [h1, h2, n1, n2]
  have : min d.dep e.dep ≤ 64 := Nat.le_trans (Nat.min_le_left _ _) hd
  simp [this]
theorem dNe_dd {d e : D} {ah : List AO} (h1 : look ah d = d) (h2 : look ah e = e) (n1 : d.nr = true) (n2 : e.nr = true) (hd : d.dep ≤ 64) : dNe d e ah = .ok (.bl (!D.eq d e)) ah := by
  unfold dNe eqOk
  rw [h1, h2, n1, n2]
  have : min d.dep e.dep ≤ 64 := Nat.le_trans (Nat.min_le_left _ _) hd
  simp [this]
theorem eqs_ints : ∀ xs ys : List Int, D.eqs (xs.map .int) (ys.map .int) = decide (xs = ys)
  | [], [] => by simp [D.eqs]
  | [], _ :: _ => by simp [D.eqs]
  | _ :: _, [] => by simp [D.eqs]
  | x :: xs, y :: ys => by
    rw [List.map_cons, List.map_cons, D.eqs, eqs_ints xs ys, D.eq]
    by_cases h : x = y <;> by_cases g : xs = ys <;> simp [h, g]
theorem deps_ints : ∀ xs : List Int, D.deps (xs.map .int) = 0
  | [] => rfl
  | x :: xs => by rw [List.map_cons, D.deps, deps_ints xs]; rfl
theorem szs_ints : ∀ xs : List Int, D.szs (xs.map .int) = xs.length
  | [] => rfl
  | x :: xs => by rw [List.map_cons, D.szs, szs_ints xs, List.length_cons]; show 1 + _ = _; omega
theorem dEq_tt {xs ys : List Int} {ah : List AO} : dEq (.tup (xs.map .int)) (.tup (ys.map .int)) ah = .ok (.bl (decide (xs = ys))) ah := by
  rw [dEq_dd rfl rfl (by rw [D.nr]; exact nrs_ints _) (by rw [D.nr]; exact nrs_ints _) (by rw [D.dep, deps_ints]; decide), D.eq, eqs_ints]
theorem dNe_self {d : D} {ah : List AO} (h : look ah d = d) (hn : d.nr = true) (hd : d.dep ≤ 64) : dNe d d ah = .ok (.bl false) ah := by
  rw [dNe_dd h h hn hn hd, D.eq_self d hn]; rfl
/-- alike of one with itself, as a test -/
theorem alike_call {F : FF} (hF : F = F_alike) {ga : SA} {ρ : Rho} {ah ah1 : List AO} {d : D} (hg : ga ρ ah = .ok [d, d] ah1) (hn : d.nr = true) (hd : d.dep ≤ 64) (hs : D.sz d ≤ sizeLine) : cCallP 2 F ga ρ ah = .ok (.bl true) ah1 := by
  subst hF
  obtain ⟨ah', e⟩ := alike_run hn hd hs
  have hc : calmD d = true := by cases d <;> first | exact hn | rfl
  exact callP_gen hg rfl (by simp [hc]) e rfl
/-! slices -/
theorem cut_nats {α : Type} {xs : List α} {i j : Nat} (hi : i ≤ xs.length) (hj : j ≤ xs.length) : cut xs (some (i : Int)) (some (j : Int)) = (xs.drop i).take (j - i) := by
  unfold cut
  rw [HT.sIx_nat, HT.sIx_nat, Nat.min_eq_left hi, Nat.min_eq_left hj]
theorem cut_to {α : Type} {xs : List α} {j : Nat} : cut xs none (some (j : Int)) = xs.take j := by
  unfold cut
  rw [HT.sIx_nat, HT.sIx_none, List.drop_zero, Nat.sub_zero]
  rcases Nat.le_total j xs.length with q | q
  · rw [Nat.min_eq_left q]
  · rw [Nat.min_eq_right q, List.take_length, List.take_of_length_le q]
theorem cut_back {α : Type} {xs : List α} {j : Nat} (h : 0 < j) : cut xs none (some (-(j : Int))) = xs.take (xs.length - j) := by
  unfold cut
  have e : HT.sIx xs.length xs.length (some (-(j : Int))) = xs.length - j := by
    show (if -(j : Int) < 0 then (-(j : Int) + (xs.length : Nat)).toNat else _) = _
    rw [if_pos (by omega)]; omega
  rw [e, HT.sIx_none, List.drop_zero, Nat.sub_zero]
theorem cut_last {α : Type} {xs : List α} {j : Nat} (h : 0 < j) : cut xs (some (-(j : Int))) none = xs.drop (xs.length - j) := by
  unfold cut
  have e : HT.sIx xs.length 0 (some (-(j : Int))) = xs.length - j := by
    show (if -(j : Int) < 0 then (-(j : Int) + (xs.length : Nat)).toNat else _) = _
    rw [if_pos (by omega)]; omega
  rw [e]
  show (xs.drop (xs.length - j)).take (xs.length - (xs.length - j)) = _
  rw [List.take_of_length_le (by rw [List.length_drop]; omega)]
theorem ap_and {f g : SE} {ρ : Rho} {ah : List AO} : cAnd f g ρ ah = (f ρ ah).bind fun d ah1 => onB d (g ρ ah1) (.ok (.bl false) ah1) := rfl
theorem ap_not {f : SE} {ρ : Rho} {ah : List AO} : cNot f ρ ah = (f ρ ah).bind fun d ah1 => onB d (.ok (.bl false) ah1) (.ok (.bl true) ah1) := rfl
theorem ap_tup {ga : SA} {ρ : Rho} {ah : List AO} : cTup ga ρ ah = (ga ρ ah).bind fun ds ah1 => if ds.length ≤ sizeLine then .ok (.tup ds) ah1 else .stuck := rfl
theorem add_tt {xs ys : List D} {ah : List AO} (h : xs.length + ys.length ≤ sizeLine) : dAdd (.tup xs) (.tup ys) ah = .ok (.tup (xs ++ ys)) ah := by
  show (if xs.length + ys.length ≤ sizeLine then R.ok (D.tup (xs ++ ys)) ah else R.stuck) = _
  rw [if_pos h]
theorem subI_ii {a b : Int} {ah : List AO} : dSub (.int a) (.int b) ah = .ok (.int (a - b)) ah := dInt_ii rfl
end Pl

set_option Elab.async false
set_option linter.all false
set_option maxRecDepth 100000
set_option maxHeartbeats 4000000
namespace Lw
open PySem L2 Qd
noncomputable def s__law_bag : SS :=
  (sRet (cLstM (aCons (cC (.int 0)) (aCons (cC (.int 1234567891)) (aCons (cC (.int 0)) (aCons (cLc (iOf (cSl (cVar 0) oNone (oSome (cC (.int 63))))) (gNm 1) cYes (cBi bAbs (aCons (cVar 1) aNil)) [1]) aNil))))))
noncomputable def F__law_bag : FF := runF 2 s__law_bag
theorem E__law_bag : F__law_bag = runF 2 s__law_bag := rfl
noncomputable def s__law_take : SS :=
  (sSeq (sIf (cOp dEq (cOp dIx (cVar 0) (cC (.int 0))) (cC (.int 0))) (sSeq (sAsg (cOp dIx (cOp dAdd (cSl (cOp dIx (cVar 0) (cC (.int 3))) (oSome (cOp dIx (cVar 0) (cC (.int 2)))) oNone) (cLst (aCons (cC (.int 0)) aNil))) (cC (.int 0))) (gNm 2))
    (sSeq (sAugIx dAddI (cVar 0) (cC (.int 2)) (cC (.int 1)))
    (sSeq (sIf (cOp dGe (cVar 2) (cOp dPow (cC (.int 10)) (cC (.int 18)))) (sSetIx (cVar 2) (cVar 0) (cC (.int 0))) sNext)
    (sSeq (sAsg (cOp dAdd (cOp dAdd (cOp dMul (cOp dIx (cVar 0) (cC (.int 1))) (cC (.int 48271))) (cOp dMod (cBi bInt (aCons (cVar 2) aNil)) (cC (.int 2147483647)))) (cOp dMul (cC (.int 7919)) (cOp dIx (cVar 0) (cC (.int 2))))) (gNm 3))
    (sSetIx (cOp dMod (cBi bInt (aCons (cVar 3) aNil)) (cC (.int 2147483647))) (cVar 0) (cC (.int 1))))))) sNext)
    (sSeq (sIf (cOp dGt (cOp dIx (cVar 0) (cC (.int 0))) (cC (.int 0))) (sSeq (sAsg (cOp dMod (cBi bInt (aCons (cOp dIx (cVar 0) (cC (.int 0))) aNil)) (cVar 1)) (gNm 4))
    (sSeq (sSetIx (cOp dDiv (cBi bInt (aCons (cOp dIx (cVar 0) (cC (.int 0))) aNil)) (cVar 1)) (cVar 0) (cC (.int 0)))
    (sRet (cVar 4)))) sNext)
    (sSeq (sAsg (cOp dMod (cBi bInt (aCons (cOp dMul (cOp dAdd (cOp dIx (cVar 0) (cC (.int 1))) (cC (.int 1))) (cC (.int 39373))) aNil)) (cC (.int 1000000007))) (gNm 5))
    (sSeq (sAsg (cOp dMod (cBi bInt (aCons (cOp dMul (cOp dMod (cBi bInt (aCons (cOp dMul (cVar 5) (cVar 5)) aNil)) (cC (.int 998244353))) (cC (.int 30011))) aNil)) (cC (.int 998244353))) (gNm 6))
    (sRet (cOp dMod (cBi bInt (aCons (cOp dDiv (cVar 6) (cC (.int 7))) aNil)) (cVar 1)))))))
noncomputable def F__law_take : FF := runF 7 s__law_take
theorem E__law_take : F__law_take = runF 7 s__law_take := rfl
noncomputable def s__law_some : SS :=
  (sRet (cOp dIx (cVar 1) (cCallB 2 0 F__law_take (aCons (cVar 0) (aCons (cBi bLen (aCons (cVar 1) aNil)) aNil)))))
noncomputable def F__law_some : FF := runF 2 s__law_some
theorem E__law_some : F__law_some = runF 2 s__law_some := rfl
noncomputable def s__law_octets (act : SE) : SS :=
  sTry (sRet (cTup (aCons (cC (.str (Str.ofString "told"))) (aCons act aNil)))) (([("BadBytes", true)], some 1, (fun y => sRet ((fun y => cTup ((fun y => aCons ((fun _ => (cC (.str (Str.ofString "bytes")))) y) ((fun y => aCons ((xF "BadBytes" "index") y) ((fun y => aCons ((xF "BadBytes" "fault") y) ((fun _ => aNil) y)) y)) y)) y)) y))) :: [])
noncomputable def s__law_check : SS :=
  (sSeq (sAsg (cC (.int 1)) (gNm 1))
    (sSeq (sFor (iOf (cVar 0)) (gNm 2) (sAsg (cOp dMod (cBi bInt (aCons (cOp dAdd (cOp dAdd (cOp dMul (cVar 1) (cC (.int 257))) (cVar 2)) (cC (.int 1))) aNil)) (cC (.int 4294967291))) (gNm 1)))
    (sRet (cVar 1))))
noncomputable def F__law_check : FF := runF 3 s__law_check
theorem E__law_check : F__law_check = runF 3 s__law_check := rfl
noncomputable def s__law_sealed : SS :=
  (sSeq (sPar 1 2 (aCons (cCallP 1 F__law_check (aCons (cVar 0) aNil)) (aCons (cLstM aNil) aNil)))
    (sSeq (sFor (iRange1 (aCons (cC (.int 4)) aNil)) (gNm 3) (sSeq (sDrop (cMtL mAppend (cVar 2) (aCons (cOp dMod (cBi bInt (aCons (cVar 1) aNil)) (cC (.int 256))) aNil)))
    (sAsg (cOp dDiv (cBi bInt (aCons (cVar 1) aNil)) (cC (.int 256))) (gNm 1))))
    (sRet (cOp dAdd (cBi bTuple (aCons (cVar 0) aNil)) (cBi bTuple (aCons (cRev (cVar 2)) aNil))))))
noncomputable def F__law_sealed : FF := runF 4 s__law_sealed
theorem E__law_sealed : F__law_sealed = runF 4 s__law_sealed := rfl
noncomputable def s__law_integer : SS :=
  (sSeq (sAsg (cLstM aNil) (gNm 1))
    (sSeq (sWhile (cOp dGt (cVar 0) (cC (.int 127))) (sSeq (sDrop (cMtL mAppend (cVar 1) (aCons (cOp dAdd (cC (.int 128)) (cOp dMod (cBi bInt (aCons (cVar 0) aNil)) (cC (.int 128)))) aNil)))
    (sAsg (cOp dDiv (cBi bInt (aCons (cVar 0) aNil)) (cC (.int 128))) (gNm 0))))
    (sRet (cBi bTuple (aCons (cOp dAdd (cVar 1) (cLst (aCons (cVar 0) aNil))) aNil)))))
noncomputable def F__law_integer : FF := runF 2 s__law_integer
theorem E__law_integer : F__law_integer = runF 2 s__law_integer := rfl
noncomputable def s__law_alike : SS :=
  (sSeq (sPar 2 3 (aCons (cLstM (aCons (cTup (aCons (cVar 0) (aCons (cVar 1) aNil))) aNil)) (aCons (cC (.int 0)) aNil)))
    (sSeq (sWhile (cOp dLt (cVar 3) (cBi bLen (aCons (cVar 2) aNil))) (sSeq (sAsg (cOp dIx (cVar 2) (cVar 3)) (gTp 2 (gsCons (gNm 4) (gsCons (gNm 5) gsNil))))
    (sSeq (sAug 3 dAddI (cC (.int 1)))
    (sSeq (sIf (cOr (cOp dNe (cIsi ["bool"] (cVar 4)) (cIsi ["bool"] (cVar 5))) (cOp dNe (cIsi ["str"] (cVar 4)) (cIsi ["str"] (cVar 5)))) (sRet (cC (.bl false))) sNext)
    (sSeq (sIf (cOp dNe (cIsi ["tuple", "list"] (cVar 4)) (cIsi ["tuple", "list"] (cVar 5))) (sRet (cC (.bl false))) sNext)
    (sIf (cIsi ["tuple", "list"] (cVar 4)) (sSeq (sIf (cOr (cOp dNe (cIsi ["tuple"] (cVar 4)) (cIsi ["tuple"] (cVar 5))) (cOp dNe (cBi bLen (aCons (cVar 4) aNil)) (cBi bLen (aCons (cVar 5) aNil)))) (sRet (cC (.bl false))) sNext)
    (sDrop (cMtL mExtend (cVar 2) (aCons (cLZip (aCons (cVar 4) (aCons (cVar 5) aNil))) aNil)))) (sIf (cOp dNe (cVar 4) (cVar 5)) (sRet (cC (.bl false))) sNext)))))))
    (sRet (cC (.bl true)))))
noncomputable def F__law_alike : FF := runF 6 s__law_alike
theorem E__law_alike : F__law_alike = runF 6 s__law_alike := rfl
noncomputable def s_check_of : SS :=
  (sSeq (sAsg (cC (.int 1)) (gNm 1))
    (sSeq (sFor (iOf (cVar 0)) (gNm 2) (sAsg (cOp dMod (cOp dAdd (cOp dAdd (cOp dMul (cVar 1) (cC (.int 257))) (cVar 2)) (cC (.int 1))) (cC (.int 4294967291))) (gNm 1)))
    (sRet (cVar 1))))
noncomputable def F_check_of : FF := runF 3 s_check_of
theorem E_check_of : F_check_of = runF 3 s_check_of := rfl
noncomputable def s_sealed : SS :=
  (sSeq (sAsg (cCallP 1 F_check_of (aCons (cVar 0) aNil)) (gNm 1))
    (sRet (cTup (aStar (cVar 0) (aCons (cOp dShr (cVar 1) (cC (.int 24))) (aCons (cOp dAnd (cOp dShr (cVar 1) (cC (.int 16))) (cC (.int 255))) (aCons (cOp dAnd (cOp dShr (cVar 1) (cC (.int 8))) (cC (.int 255))) (aCons (cOp dAnd (cVar 1) (cC (.int 255))) aNil))))))))
noncomputable def F_sealed : FF := runF 2 s_sealed
theorem E_sealed : F_sealed = runF 2 s_sealed := rfl
noncomputable def s_is_sealed : SS :=
  (sRet (cAnd (cOp dGe (cBi bLen (aCons (cVar 0) aNil)) (cC (.int 4))) (cOp dEq (cCallP 1 F_sealed (aCons (cSl (cVar 0) oNone (oSome (cOp dSub (cBi bLen (aCons (cVar 0) aNil)) (cC (.int 4))))) aNil)) (cBi bTuple (aCons (cVar 0) aNil)))))
noncomputable def F_is_sealed : FF := runF 1 s_is_sealed
theorem E_is_sealed : F_is_sealed = runF 1 s_is_sealed := rfl
noncomputable def s_bits_of : SS :=
  (sRet (cStr1 dJoin (cC (.str (Str.ofString ""))) (cLc (iRange1 (aCons (cC (.int 7)) aNil)) (gNm 1) cYes (cIf (cTr (cOp dAnd (cVar 0) (cOp dShr (cOp dDiv (cC (.int 128)) (cC (.int 2))) (cVar 1)))) (cC (.str (Str.ofString "1"))) (cC (.str (Str.ofString "0")))) [1])))
noncomputable def F_bits_of : FF := runF 2 s_bits_of
theorem E_bits_of : F_bits_of = runF 2 s_bits_of := rfl
noncomputable def s_read_integer : SS :=
  (sSeq (sAsg (cVar 1) (gNm 2))
    (sSeq (sWhile (cAnd (cOp dLt (cVar 2) (cBi bLen (aCons (cVar 0) aNil))) (cOp dGe (cOp dIx (cVar 0) (cVar 2)) (cC (.int 128)))) (sAug 2 dAddI (cC (.int 1))))
    (sSeq (sIf (cOr (cOp dEq (cVar 2) (cBi bLen (aCons (cVar 0) aNil))) (cOr (cOp dGe (cOp dSub (cVar 2) (cVar 1)) (cC (.int 200))) (cAnd (cOp dEq (cOp dIx (cVar 0) (cVar 2)) (cC (.int 0))) (cOp dGt (cVar 2) (cVar 1))))) (sRaise "BadBytes" ["index", "fault"] (aCons (cVar 1) (aCons (cC (.str (Str.ofString "integer"))) aNil))) sNext)
    (sRet (cTup (aCons (cBi bInt2 (aCons (cStr1 dJoin (cC (.str (Str.ofString ""))) (cLc (iOf (cRev (cSl (cVar 0) (oSome (cVar 1)) (oSome (cOp dAdd (cVar 2) (cC (.int 1))))))) (gNm 3) cYes (cCallP 1 F_bits_of (aCons (cVar 3) aNil)) [3])) (aCons (cC (.int 2)) aNil))) (aCons (cOp dAdd (cVar 2) (cC (.int 1))) aNil)))))))
noncomputable def F_read_integer : FF := runF 4 s_read_integer
theorem E_read_integer : F_read_integer = runF 4 s_read_integer := rfl
noncomputable def s_integer_octets : SS :=
  (sSeq (sAsg (cLstM aNil) (gNm 1))
    (sSeq (sWhile (cOp dGe (cVar 0) (cC (.int 128))) (sSeq (sDrop (cMtL mAppend (cVar 1) (aCons (cOp dAdd (cC (.int 128)) (cOp dAnd (cVar 0) (cOp dSub (cC (.int 128)) (cC (.int 1))))) aNil)))
    (sAug 0 dShr (cC (.int 7)))))
    (sRet (cTup (aStar (cVar 1) (aCons (cVar 0) aNil))))))
noncomputable def F_integer_octets : FF := runF 2 s_integer_octets
theorem E_integer_octets : F_integer_octets = runF 2 s_integer_octets := rfl
noncomputable def s_law : SS :=
  (sSeq (sAsg (cCallN 1 F__law_bag (aCons (cVar 0) aNil)) (gNm 1))
    (sSeq (sFor (iRange1 (aCons (cC (.int 9)) aNil)) (gNm 2) (sSeq (sAsg (cCallB 2 0 F__law_some (aCons (cVar 1) (aCons (cLst (aCons (cCallB 2 0 F__law_take (aCons (cVar 1) (aCons (cC (.int 200)) aNil))) (aCons (cCallB 2 0 F__law_take (aCons (cVar 1) (aCons (cOp dPow (cC (.int 10)) (cC (.int 9))) aNil))) (aCons (cC (.int 127)) (aCons (cC (.int 128)) (aCons (cC (.int 16384)) (aCons (cOp dAdd (cOp dPow (cC (.int 10)) (cC (.int 60))) (cCallB 2 0 F__law_take (aCons (cVar 1) (aCons (cOp dPow (cC (.int 10)) (cC (.int 9))) aNil)))) aNil))))))) aNil))) (gNm 3))
    (sSeq (sAsg (cTup (aCons (cCallP 1 F__law_integer (aCons (cVar 3) aNil)) (aCons (cBi bTuple (aCons (cLc (iRange1 (aCons (cCallB 2 0 F__law_take (aCons (cVar 1) (aCons (cC (.int 5)) aNil))) aNil)) (gNm 14) cYes (cCallB 2 0 F__law_take (aCons (cVar 1) (aCons (cC (.int 256)) aNil))) [14]) aNil)) aNil))) (gTp 2 (gsCons (gNm 4) (gsCons (gNm 5) gsNil))))
    (sSeq (sIf (cNot (cCallP 2 F__law_alike (aCons (cLst (aCons (cCallP 1 F_integer_octets (aCons (cVar 3) aNil)) (aCons (cCallP 2 F_read_integer (aCons (cOp dAdd (cOp dAdd (cVar 5) (cVar 4)) (cTup (aCons (cC (.int 5)) aNil))) (aCons (cBi bLen (aCons (cVar 5) aNil)) aNil))) aNil))) (aCons (cLst (aCons (cVar 4) (aCons (cTup (aCons (cVar 3) (aCons (cOp dAdd (cBi bLen (aCons (cVar 5) aNil)) (cBi bLen (aCons (cVar 4) aNil))) aNil))) aNil))) aNil)))) (sRet (cC (.bl false))) sNext)
    (sSeq (sAsg (cLam 2 s__law_octets (cCallP 2 F_read_integer (aCons (cOp dAdd (cVar 5) (cSl (cVar 4) oNone (oSome (cUn dNeg (cC (.int 1)))))) (aCons (cBi bLen (aCons (cVar 5) aNil)) aNil)))) (gNm 6))
    (sSeq (sIf (cOp dNe (cVar 6) (cTup (aCons (cC (.str (Str.ofString "bytes"))) (aCons (cBi bLen (aCons (cVar 5) aNil)) (aCons (cC (.str (Str.ofString "integer"))) aNil))))) (sRet (cC (.bl false))) sNext)
    (sSeq (sIf (cOp dGt (cBi bLen (aCons (cVar 4) aNil)) (cC (.int 1))) (sSeq (sAsg (cOp dAdd (cSl (cVar 4) oNone (oSome (cUn dNeg (cC (.int 1))))) (cTup (aCons (cOp dAdd (cBi bInt (aCons (cOp dIx (cVar 4) (cUn dNeg (cC (.int 1)))) aNil)) (cC (.int 128))) (aCons (cC (.int 0)) aNil)))) (gNm 7))
    (sSeq (sAsg (cLam 2 s__law_octets (cCallP 2 F_read_integer (aCons (cOp dAdd (cVar 5) (cVar 7)) (aCons (cBi bLen (aCons (cVar 5) aNil)) aNil)))) (gNm 6))
    (sIf (cOp dNe (cVar 6) (cTup (aCons (cC (.str (Str.ofString "bytes"))) (aCons (cBi bLen (aCons (cVar 5) aNil)) (aCons (cC (.str (Str.ofString "integer"))) aNil))))) (sRet (cC (.bl false))) sNext))) sNext)
    (sSeq (sAsg (cBi bTuple (aCons (cLc (iRange1 (aCons (cCallB 2 0 F__law_take (aCons (cVar 1) (aCons (cC (.int 20)) aNil))) aNil)) (gNm 14) cYes (cCallB 2 0 F__law_take (aCons (cVar 1) (aCons (cC (.int 256)) aNil))) [14]) aNil)) (gNm 8))
    (sSeq (sAsg (cCallP 1 F__law_sealed (aCons (cVar 8) aNil)) (gNm 9))
    (sSeq (sIf (cNot (cCallP 2 F__law_alike (aCons (cLst (aCons (cCallP 1 F_check_of (aCons (cVar 8) aNil)) (aCons (cCallP 1 F_sealed (aCons (cVar 8) aNil)) (aCons (cCallP 1 F_is_sealed (aCons (cVar 9) aNil)) aNil)))) (aCons (cLst (aCons (cCallP 1 F__law_check (aCons (cVar 8) aNil)) (aCons (cVar 9) (aCons (cC (.bl true)) aNil)))) aNil)))) (sRet (cC (.bl false))) sNext)
    (sSeq (sPar 10 11 (aCons (cCallB 2 0 F__law_take (aCons (cVar 1) (aCons (cBi bLen (aCons (cVar 9) aNil)) aNil))) (aCons (cOp dAdd (cC (.int 1)) (cCallB 2 0 F__law_take (aCons (cVar 1) (aCons (cC (.int 3)) aNil)))) aNil)))
    (sSeq (sAsg (cBi bListM (aCons (cVar 9) aNil)) (gNm 12))
    (sSeq (sFor (iRange2 (aCons (cVar 10) (aCons (cBi bMin2 (aCons (cOp dAdd (cVar 10) (cVar 11)) (aCons (cBi bLen (aCons (cVar 9) aNil)) aNil))) aNil))) (gNm 13) (sSetIx (cOp dMod (cBi bInt (aCons (cOp dAdd (cOp dAdd (cOp dIx (cVar 12) (cVar 13)) (cC (.int 1))) (cCallB 2 0 F__law_take (aCons (cVar 1) (aCons (cC (.int 255)) aNil)))) aNil)) (cC (.int 256))) (cVar 12) (cVar 13)))
    (sIf (cOp (dIsB true) (cCallP 1 F_is_sealed (aCons (cBi bTuple (aCons (cVar 12) aNil)) aNil)) (cC (.bl false))) (sRet (cC (.bl false))) sNext))))))))))))))
    (sRet (cC (.bl true)))))
noncomputable def F_law : FF := runF 15 s_law
theorem E_law : F_law = runF 15 s_law := rfl
end Lw

set_option Elab.async false
set_option linter.all false
set_option maxRecDepth 100000
set_option maxHeartbeats 4000000
/-! K38P: what k38's plain law has in common with k37's. -/
namespace Lw
open PySem L2 Qd Pl
theorem take_eq : F__law_take = F_take := rfl
theorem alike_eq : F__law_alike = F_alike := rfl
theorem some_eq : F__law_some = F_some := rfl
theorem bag_eq : F__law_bag = F_bag := rfl
/-- a number's groups, the last apart -/
def dgI (n : Nat) : List Int := if h : 127 < n then ((128 + n % 128 : Nat) : Int) :: dgI (n / 128) else []
termination_by n
decreasing_by omega
def dgL (n : Nat) : Int := if h : 127 < n then dgL (n / 128) else (n : Int)
termination_by n
decreasing_by omega
theorem dgI_big {n : Nat} (h : 127 < n) : dgI n = ((128 + n % 128 : Nat) : Int) :: dgI (n / 128) := by rw [dgI, dif_pos h]
theorem dgI_small {n : Nat} (h : ¬ 127 < n) : dgI n = [] := by rw [dgI, dif_neg h]
theorem dgL_big {n : Nat} (h : 127 < n) : dgL n = dgL (n / 128) := by rw [dgL, dif_pos h]
theorem dgL_small {n : Nat} (h : ¬ 127 < n) : dgL n = (n : Int) := by rw [dgL, dif_neg h]
noncomputable def tI : SE := cOp dGt (cVar 0) (cC (.int 127))
noncomputable def bI : SS := sSeq (sDrop (cMtL mAppend (cVar 1) (aCons (cOp dAdd (cC (.int 128)) (cOp dMod (cBi bInt (aCons (cVar 0) aNil)) (cC (.int 128)))) aNil))) (sAsg (cOp dDiv (cBi bInt (aCons (cVar 0) aNil)) (cC (.int 128))) (gNm 0))
theorem app_run {xs : List D} {d : D} {ah : List AO} (h : xs.length < sizeLine) : mAppend (.ref 0) [d] (.lst xs :: ah) = .ok .non (.lst (xs ++ [d]) :: ah) := by
  show onLst (.ref 0) (.lst xs :: ah) (fun n zs => if zs.length < sizeLine then R.ok D.non ((AO.lst xs :: ah).set n (.lst (zs ++ [d]))) else R.stuck) = _
  rw [onLst_ref 0 (.lst xs :: ah) xs _ rfl, if_pos h]; rfl
theorem integer_loop : ∀ (n : Nat) (acc : List D), acc.length + (dgI n).length ≤ sizeLine → sWhile tI bI [some (.int n), some (.ref 0)] [.lst acc] = .nx [some (.int (dgL n)), some (.ref 0)] [.lst (acc ++ (dgI n).map .int)] := by
  intro n
  induction n using Nat.strongRecOn with
  | ind n ih =>
    intro acc hl
    rw [sWhile_eq]
    unfold whileStep
    by_cases h : 127 < n
    · have e1 : tI [some (.int n), some (.ref 0)] [.lst acc] = .ok (.bl true) [.lst acc] := by
        unfold tI
        have : decide ((127 : Int) < (n : Int)) = true := by simp; omega
        simp only [ap_var, ap_c, ap_op, ap_nil, ap_cons, ap_bi, ap_seq, ap_if, ap_asg, ap_nm, ap_ret, ap_next, ap_drop, ap_sl, ap_oN, ap_oS, ap_setIx, ap_augIx, ap_lst, R.bind_ok, R.bind_exc, R.bind_stuck, R.out_ok, R.out_exc, R.out_stuck, Out.seq_nx, Out.seq_rt, onBO_true, onBO_false, onB_true, onB_false, endF_rt, endF_nx, dEq_ii, dNe_ii, dLt_ii, dGt_ii, dLe_ii, dGe_ii, dAdd_ii, bInt_i, List.getElem?_cons_zero, List.getElem?_cons_succ, List.set_cons_zero, List.set_cons_succ, List.map_cons, List.map_nil, List.length_cons, List.length_nil, List.replicate, List.cons_append, List.nil_append, Nat.reduceAdd, Nat.reduceSub, this]
      rw [dgI_big h] at hl
      have hl' : acc.length < sizeLine := by rw [List.length_cons] at hl; omega
      have e2 : bI [some (.int n), some (.ref 0)] [.lst acc] = .nx [some (.int ((n / 128 : Nat) : Int)), some (.ref 0)] [.lst (acc ++ [.int ((128 + n % 128 : Nat) : Int)])] := by
        have e3 : cMtL mAppend (cVar 1) (aCons (cOp dAdd (cC (.int 128)) (cOp dMod (cBi bInt (aCons (cVar 0) aNil)) (cC (.int 128)))) aNil) [some (.int n), some (.ref 0)] [.lst acc] = .ok .non [.lst (acc ++ [.int ((128 + n % 128 : Nat) : Int)])] := by
          unfold cMtL
          simp only [ap_var, ap_c, ap_op, ap_nil, ap_cons, ap_bi, ap_seq, ap_if, ap_asg, ap_nm, ap_ret, ap_next, ap_drop, ap_sl, ap_oN, ap_oS, ap_setIx, ap_augIx, ap_lst, R.bind_ok, R.bind_exc, R.bind_stuck, R.out_ok, R.out_exc, R.out_stuck, Out.seq_nx, Out.seq_rt, onBO_true, onBO_false, onB_true, onB_false, endF_rt, endF_nx, dEq_ii, dNe_ii, dLt_ii, dGt_ii, dLe_ii, dGe_ii, dAdd_ii, bInt_i, List.getElem?_cons_zero, List.getElem?_cons_succ, List.set_cons_zero, List.set_cons_succ, List.map_cons, List.map_nil, List.length_cons, List.length_nil, List.replicate, List.cons_append, List.nil_append, Nat.reduceAdd, Nat.reduceSub, onLst_ref 0 [.lst acc] acc _ rfl, mod_ok (b := 128) (by decide), app_run hl']
          rfl
        unfold bI
        simp only [ap_var, ap_c, ap_op, ap_nil, ap_cons, ap_bi, ap_seq, ap_if, ap_asg, ap_nm, ap_ret, ap_next, ap_drop, ap_sl, ap_oN, ap_oS, ap_setIx, ap_augIx, ap_lst, R.bind_ok, R.bind_exc, R.bind_stuck, R.out_ok, R.out_exc, R.out_stuck, Out.seq_nx, Out.seq_rt, onBO_true, onBO_false, onB_true, onB_false, endF_rt, endF_nx, dEq_ii, dNe_ii, dLt_ii, dGt_ii, dLe_ii, dGe_ii, dAdd_ii, bInt_i, List.getElem?_cons_zero, List.getElem?_cons_succ, List.set_cons_zero, List.set_cons_succ, List.map_cons, List.map_nil, List.length_cons, List.length_nil, List.replicate, List.cons_append, List.nil_append, Nat.reduceAdd, Nat.reduceSub, e3, div_ok (b := 128) (by decide) (by decide)]
        rfl
      rw [e1]
      simp only [R.out_ok, onBO_true, e2]
      rw [ih (n / 128) (by omega) _ (by rw [List.length_append]; rw [List.length_cons] at hl; simp only [List.length_cons, List.length_nil]; omega), dgI_big h, dgL_big h]
      simp
    · have e1 : tI [some (.int n), some (.ref 0)] [.lst acc] = .ok (.bl false) [.lst acc] := by
        unfold tI
        have : decide ((127 : Int) < (n : Int)) = false := by simp; omega
        simp only [ap_var, ap_c, ap_op, ap_nil, ap_cons, ap_bi, ap_seq, ap_if, ap_asg, ap_nm, ap_ret, ap_next, ap_drop, ap_sl, ap_oN, ap_oS, ap_setIx, ap_augIx, ap_lst, R.bind_ok, R.bind_exc, R.bind_stuck, R.out_ok, R.out_exc, R.out_stuck, Out.seq_nx, Out.seq_rt, onBO_true, onBO_false, onB_true, onB_false, endF_rt, endF_nx, dEq_ii, dNe_ii, dLt_ii, dGt_ii, dLe_ii, dGe_ii, dAdd_ii, bInt_i, List.getElem?_cons_zero, List.getElem?_cons_succ, List.set_cons_zero, List.set_cons_succ, List.map_cons, List.map_nil, List.length_cons, List.length_nil, List.replicate, List.cons_append, List.nil_append, Nat.reduceAdd, Nat.reduceSub, this]
      rw [e1]
      simp only [R.out_ok, onBO_false, dgI_small h, dgL_small h, List.map_nil, List.append_nil]
def dgs (n : Nat) : List Int := dgI n ++ [dgL n]
theorem lstM_nil {ρ : Rho} : cLstM aNil ρ [] = .ok (.ref 0) [.lst []] := by
  unfold cLstM
  simp only [ap_var, ap_c, ap_op, ap_nil, ap_cons, ap_bi, ap_seq, ap_if, ap_asg, ap_nm, ap_ret, ap_next, ap_drop, ap_sl, ap_oN, ap_oS, ap_setIx, ap_augIx, ap_lst, R.bind_ok, R.bind_exc, R.bind_stuck, R.out_ok, R.out_exc, R.out_stuck, Out.seq_nx, Out.seq_rt, onBO_true, onBO_false, onB_true, onB_false, endF_rt, endF_nx, dEq_ii, dNe_ii, dLt_ii, dGt_ii, dLe_ii, dGe_ii, dAdd_ii, bInt_i, List.getElem?_cons_zero, List.getElem?_cons_succ, List.set_cons_zero, List.set_cons_succ, List.map_cons, List.map_nil, List.length_cons, List.length_nil, List.replicate, List.cons_append, List.nil_append, Nat.reduceAdd, Nat.reduceSub]
  rw [if_pos (Nat.zero_le _)]
theorem cat_run {xs : List D} {a : Int} {ah : List AO} (h : xs.length + 1 ≤ sizeLine) : dAdd (.ref 0) (.lst [.int a]) (.lst xs :: ah) = .ok (.lst (xs ++ [.int a])) (.lst xs :: ah) := by
  show (if xs.length + 1 ≤ sizeLine then R.ok (D.lst (xs ++ [.int a])) (AO.lst xs :: ah) else R.stuck) = _
  rw [if_pos h]
theorem law_integer_run {n : Nat} (h : (dgI n).length + 1 ≤ sizeLine) : ∃ ah, F__law_integer [.int n] [] = .ok (.tup ((dgs n).map .int)) ah := by
  refine ⟨[.lst ((dgI n).map .int)], ?_⟩
  have e := integer_loop n [] (by simp; omega)
  simp only [List.nil_append] at e
  have h1 : (1 : Nat) ≤ sizeLine := by decide
  show endF (sSeq (sAsg (cLstM aNil) (gNm 1)) (sSeq (sWhile tI bI) (sRet (cBi bTuple (aCons (cOp dAdd (cVar 1) (cLst (aCons (cVar 0) aNil))) aNil)))) [some (.int n), none] []) = _
  simp only [ap_var, ap_c, ap_op, ap_nil, ap_cons, ap_bi, ap_seq, ap_if, ap_asg, ap_nm, ap_ret, ap_next, ap_drop, ap_sl, ap_oN, ap_oS, ap_setIx, ap_augIx, ap_lst, R.bind_ok, R.bind_exc, R.bind_stuck, R.out_ok, R.out_exc, R.out_stuck, Out.seq_nx, Out.seq_rt, onBO_true, onBO_false, onB_true, onB_false, endF_rt, endF_nx, dEq_ii, dNe_ii, dLt_ii, dGt_ii, dLe_ii, dGe_ii, dAdd_ii, bInt_i, List.getElem?_cons_zero, List.getElem?_cons_succ, List.set_cons_zero, List.set_cons_succ, List.map_cons, List.map_nil, List.length_cons, List.length_nil, List.replicate, List.cons_append, List.nil_append, Nat.reduceAdd, Nat.reduceSub, lstM_nil, e, if_pos h1, cat_run (xs := (dgI n).map D.int) (a := dgL n) (ah := []) (by rw [List.length_map]; exact h)]
  unfold dgs
  rw [List.map_append]
  rfl
noncomputable def tO : SE := cOp dGe (cVar 0) (cC (.int 128))
noncomputable def bO : SS := sSeq (sDrop (cMtL mAppend (cVar 1) (aCons (cOp dAdd (cC (.int 128)) (cOp dAnd (cVar 0) (cOp dSub (cC (.int 128)) (cC (.int 1))))) aNil))) (sAug 0 dShr (cC (.int 7)))
theorem and127 (n : Nat) : Builtin.bitAnd (n : Int) (128 - 1) = ((n % 128 : Nat) : Int) := by
  have := PySem.W.kbt_mask (n : Int) 7
  have e : ((2 : Int) ^ 7 - 1) = 128 - 1 := by decide
  rw [e] at this
  rw [this]
  show (n : Int) % 128 = _
  omega
theorem octets_loop : ∀ (n : Nat) (acc : List D), acc.length + (dgI n).length ≤ sizeLine → sWhile tO bO [some (.int n), some (.ref 0)] [.lst acc] = .nx [some (.int (dgL n)), some (.ref 0)] [.lst (acc ++ (dgI n).map .int)] := by
  intro n
  induction n using Nat.strongRecOn with
  | ind n ih =>
    intro acc hl
    rw [sWhile_eq]
    unfold whileStep
    by_cases h : 127 < n
    · have e1 : tO [some (.int n), some (.ref 0)] [.lst acc] = .ok (.bl true) [.lst acc] := by
        unfold tO
        have : decide ((n : Int) < 128) = false := by simp; omega
        simp only [ap_var, ap_c, ap_op, ap_nil, ap_cons, ap_bi, ap_seq, ap_if, ap_asg, ap_nm, ap_ret, ap_next, ap_drop, ap_sl, ap_oN, ap_oS, ap_setIx, ap_augIx, ap_lst, R.bind_ok, R.bind_exc, R.bind_stuck, R.out_ok, R.out_exc, R.out_stuck, Out.seq_nx, Out.seq_rt, onBO_true, onBO_false, onB_true, onB_false, endF_rt, endF_nx, dEq_ii, dNe_ii, dLt_ii, dGt_ii, dLe_ii, dGe_ii, dAdd_ii, bInt_i, List.getElem?_cons_zero, List.getElem?_cons_succ, List.set_cons_zero, List.set_cons_succ, List.map_cons, List.map_nil, List.length_cons, List.length_nil, List.replicate, List.cons_append, List.nil_append, Nat.reduceAdd, Nat.reduceSub, this, Bool.not_false]
      rw [dgI_big h] at hl
      have hl' : acc.length < sizeLine := by rw [List.length_cons] at hl; omega
      have e2 : bO [some (.int n), some (.ref 0)] [.lst acc] = .nx [some (.int ((n / 128 : Nat) : Int)), some (.ref 0)] [.lst (acc ++ [.int ((128 + n % 128 : Nat) : Int)])] := by
        have e3 : cMtL mAppend (cVar 1) (aCons (cOp dAdd (cC (.int 128)) (cOp dAnd (cVar 0) (cOp dSub (cC (.int 128)) (cC (.int 1))))) aNil) [some (.int n), some (.ref 0)] [.lst acc] = .ok .non [.lst (acc ++ [.int ((128 + n % 128 : Nat) : Int)])] := by
          have q1 : dSub (.int 128) (.int 1) [.lst acc] = .ok (.int (128 - 1)) [.lst acc] := rfl
          have q2 : dAnd (.int n) (.int (128 - 1)) [.lst acc] = .ok (.int ((n % 128 : Nat) : Int)) [.lst acc] := by
            show R.ok (D.int (Builtin.bitAnd (n : Int) (128 - 1))) _ = _
            rw [and127]
          unfold cMtL
          simp only [ap_var, ap_c, ap_op, ap_nil, ap_cons, ap_bi, ap_seq, ap_if, ap_asg, ap_nm, ap_ret, ap_next, ap_drop, ap_sl, ap_oN, ap_oS, ap_setIx, ap_augIx, ap_lst, R.bind_ok, R.bind_exc, R.bind_stuck, R.out_ok, R.out_exc, R.out_stuck, Out.seq_nx, Out.seq_rt, onBO_true, onBO_false, onB_true, onB_false, endF_rt, endF_nx, dEq_ii, dNe_ii, dLt_ii, dGt_ii, dLe_ii, dGe_ii, dAdd_ii, bInt_i, List.getElem?_cons_zero, List.getElem?_cons_succ, List.set_cons_zero, List.set_cons_succ, List.map_cons, List.map_nil, List.length_cons, List.length_nil, List.replicate, List.cons_append, List.nil_append, Nat.reduceAdd, Nat.reduceSub, onLst_ref 0 [.lst acc] acc _ rfl, q1, q2, app_run hl']
          rfl
        have e4 : sAug 0 dShr (cC (.int 7)) [some (.int n), some (.ref 0)] [.lst (acc ++ [.int ((128 + n % 128 : Nat) : Int)])] = .nx [some (.int ((n / 128 : Nat) : Int)), some (.ref 0)] [.lst (acc ++ [.int ((128 + n % 128 : Nat) : Int)])] := by
          unfold sAug
          have : dShr (.int n) (.int 7) [.lst (acc ++ [.int ((128 + n % 128 : Nat) : Int)])] = .ok (.int ((n / 128 : Nat) : Int)) [.lst (acc ++ [.int ((128 + n % 128 : Nat) : Int)])] := dInt_ii (by decide)
          simp only [ap_var, ap_c, ap_op, ap_nil, ap_cons, ap_bi, ap_seq, ap_if, ap_asg, ap_nm, ap_ret, ap_next, ap_drop, ap_sl, ap_oN, ap_oS, ap_setIx, ap_augIx, ap_lst, R.bind_ok, R.bind_exc, R.bind_stuck, R.out_ok, R.out_exc, R.out_stuck, Out.seq_nx, Out.seq_rt, onBO_true, onBO_false, onB_true, onB_false, endF_rt, endF_nx, dEq_ii, dNe_ii, dLt_ii, dGt_ii, dLe_ii, dGe_ii, dAdd_ii, bInt_i, List.getElem?_cons_zero, List.getElem?_cons_succ, List.set_cons_zero, List.set_cons_succ, List.map_cons, List.map_nil, List.length_cons, List.length_nil, List.replicate, List.cons_append, List.nil_append, Nat.reduceAdd, Nat.reduceSub, this]
        unfold bO
        simp only [ap_var, ap_c, ap_op, ap_nil, ap_cons, ap_bi, ap_seq, ap_if, ap_asg, ap_nm, ap_ret, ap_next, ap_drop, ap_sl, ap_oN, ap_oS, ap_setIx, ap_augIx, ap_lst, R.bind_ok, R.bind_exc, R.bind_stuck, R.out_ok, R.out_exc, R.out_stuck, Out.seq_nx, Out.seq_rt, onBO_true, onBO_false, onB_true, onB_false, endF_rt, endF_nx, dEq_ii, dNe_ii, dLt_ii, dGt_ii, dLe_ii, dGe_ii, dAdd_ii, bInt_i, List.getElem?_cons_zero, List.getElem?_cons_succ, List.set_cons_zero, List.set_cons_succ, List.map_cons, List.map_nil, List.length_cons, List.length_nil, List.replicate, List.cons_append, List.nil_append, Nat.reduceAdd, Nat.reduceSub, e3, e4]
      rw [e1]
      simp only [R.out_ok, onBO_true, e2]
      rw [ih (n / 128) (by omega) _ (by rw [List.length_append]; rw [List.length_cons] at hl; simp only [List.length_cons, List.length_nil]; omega), dgI_big h, dgL_big h]
      simp
    · have e1 : tO [some (.int n), some (.ref 0)] [.lst acc] = .ok (.bl false) [.lst acc] := by
        unfold tO
        have : decide ((n : Int) < 128) = true := by simp; omega
        simp only [ap_var, ap_c, ap_op, ap_nil, ap_cons, ap_bi, ap_seq, ap_if, ap_asg, ap_nm, ap_ret, ap_next, ap_drop, ap_sl, ap_oN, ap_oS, ap_setIx, ap_augIx, ap_lst, R.bind_ok, R.bind_exc, R.bind_stuck, R.out_ok, R.out_exc, R.out_stuck, Out.seq_nx, Out.seq_rt, onBO_true, onBO_false, onB_true, onB_false, endF_rt, endF_nx, dEq_ii, dNe_ii, dLt_ii, dGt_ii, dLe_ii, dGe_ii, dAdd_ii, bInt_i, List.getElem?_cons_zero, List.getElem?_cons_succ, List.set_cons_zero, List.set_cons_succ, List.map_cons, List.map_nil, List.length_cons, List.length_nil, List.replicate, List.cons_append, List.nil_append, Nat.reduceAdd, Nat.reduceSub, this, Bool.not_true]
      rw [e1]
      simp only [R.out_ok, onBO_false, dgI_small h, dgL_small h, List.map_nil, List.append_nil]
theorem octets_run {n : Nat} (h : (dgI n).length + 1 ≤ sizeLine) : ∃ ah, F_integer_octets [.int n] [] = .ok (.tup ((dgs n).map .int)) ah := by
  refine ⟨[.lst ((dgI n).map .int)], ?_⟩
  have e := octets_loop n [] (by simp; omega)
  simp only [List.nil_append] at e
  have eT : cTup (aStar (cVar 1) (aCons (cVar 0) aNil)) [some (.int (dgL n)), some (.ref 0)] [.lst ((dgI n).map .int)] = .ok (.tup ((dgs n).map .int)) [.lst ((dgI n).map .int)] := by
    have hs : aStar (cVar 1) (aCons (cVar 0) aNil) [some (.int (dgL n)), some (.ref 0)] [.lst ((dgI n).map .int)] = .ok ((dgs n).map .int) [.lst ((dgI n).map .int)] := by
      unfold dgs
      rw [List.map_append]
      rfl
    have hl : ((dgs n).map D.int).length ≤ sizeLine := by
      unfold dgs
      rw [List.length_map, List.length_append]
      exact h
    unfold cTup
    rw [hs]
    simp only [R.bind_ok, if_pos hl]
  show endF (sSeq (sAsg (cLstM aNil) (gNm 1)) (sSeq (sWhile tO bO) (sRet (cTup (aStar (cVar 1) (aCons (cVar 0) aNil))))) [some (.int n), none] []) = _
  simp only [ap_var, ap_c, ap_op, ap_nil, ap_cons, ap_bi, ap_seq, ap_if, ap_asg, ap_nm, ap_ret, ap_next, ap_drop, ap_sl, ap_oN, ap_oS, ap_setIx, ap_augIx, ap_lst, R.bind_ok, R.bind_exc, R.bind_stuck, R.out_ok, R.out_exc, R.out_stuck, Out.seq_nx, Out.seq_rt, onBO_true, onBO_false, onB_true, onB_false, endF_rt, endF_nx, dEq_ii, dNe_ii, dLt_ii, dGt_ii, dLe_ii, dGe_ii, dAdd_ii, bInt_i, List.getElem?_cons_zero, List.getElem?_cons_succ, List.set_cons_zero, List.set_cons_succ, List.map_cons, List.map_nil, List.length_cons, List.length_nil, List.replicate, List.cons_append, List.nil_append, Nat.reduceAdd, Nat.reduceSub, lstM_nil, e, eT]
def chk (c : Int) : List Int → Int
  | [] => c
  | x :: xs => chk ((c * 257 + x + 1) % 4294967291) xs
noncomputable def bC : SS := sAsg (cOp dMod (cOp dAdd (cOp dAdd (cOp dMul (cVar 1) (cC (.int 257))) (cVar 2)) (cC (.int 1))) (cC (.int 4294967291))) (gNm 1)
noncomputable def bC1 : SS := sAsg (cOp dMod (cBi bInt (aCons (cOp dAdd (cOp dAdd (cOp dMul (cVar 1) (cC (.int 257))) (cVar 2)) (cC (.int 1))) aNil)) (cC (.int 4294967291))) (gNm 1)
noncomputable def bC2 : SS := sAsg (cOp dMod (cBi bInt (aCons (cOp dAdd (cOp dAdd (cOp dMul (cC (.int 257)) (cVar 1)) (cVar 2)) (cC (.int 1))) aNil)) (cC (.int 4294967291))) (gNm 1)
theorem chk_turn {t : Option D} {c x : Int} (h0 : 0 ≤ c) (h1 : c < 2 ^ 100) :
    bC [t, some (.int c), some (.int x)] [] = .nx [t, some (.int ((c * 257 + x + 1) % 4294967291)), some (.int x)] [] ∧
    bC1 [t, some (.int c), some (.int x)] [] = .nx [t, some (.int ((c * 257 + x + 1) % 4294967291)), some (.int x)] [] ∧
    bC2 [t, some (.int c), some (.int x)] [] = .nx [t, some (.int ((c * 257 + x + 1) % 4294967291)), some (.int x)] [] := by
  have m1 : dMul (.int c) (.int 257) [] = .ok (.int (c * 257)) [] := mul_small h0 h1 (by decide) (by decide)
  have m2 : dMul (.int 257) (.int c) [] = .ok (.int (257 * c)) [] := mul_small (by decide) (by decide) h0 h1
  have m3 : ∀ a : Int, dMod (.int a) (.int 4294967291) [] = .ok (.int (a % 4294967291)) [] := fun a => mod_ok (by decide)
  refine ⟨?_, ?_, ?_⟩
  · unfold bC
    simp only [ap_var, ap_c, ap_op, ap_nil, ap_cons, ap_bi, ap_seq, ap_if, ap_asg, ap_nm, ap_ret, ap_next, ap_drop, ap_sl, ap_oN, ap_oS, ap_setIx, ap_augIx, ap_lst, R.bind_ok, R.bind_exc, R.bind_stuck, R.out_ok, R.out_exc, R.out_stuck, Out.seq_nx, Out.seq_rt, onBO_true, onBO_false, onB_true, onB_false, endF_rt, endF_nx, dEq_ii, dNe_ii, dLt_ii, dGt_ii, dLe_ii, dGe_ii, dAdd_ii, bInt_i, List.getElem?_cons_zero, List.getElem?_cons_succ, List.set_cons_zero, List.set_cons_succ, List.map_cons, List.map_nil, List.length_cons, List.length_nil, List.replicate, List.cons_append, List.nil_append, Nat.reduceAdd, Nat.reduceSub, m1, m3]
  · unfold bC1
    simp only [ap_var, ap_c, ap_op, ap_nil, ap_cons, ap_bi, ap_seq, ap_if, ap_asg, ap_nm, ap_ret, ap_next, ap_drop, ap_sl, ap_oN, ap_oS, ap_setIx, ap_augIx, ap_lst, R.bind_ok, R.bind_exc, R.bind_stuck, R.out_ok, R.out_exc, R.out_stuck, Out.seq_nx, Out.seq_rt, onBO_true, onBO_false, onB_true, onB_false, endF_rt, endF_nx, dEq_ii, dNe_ii, dLt_ii, dGt_ii, dLe_ii, dGe_ii, dAdd_ii, bInt_i, List.getElem?_cons_zero, List.getElem?_cons_succ, List.set_cons_zero, List.set_cons_succ, List.map_cons, List.map_nil, List.length_cons, List.length_nil, List.replicate, List.cons_append, List.nil_append, Nat.reduceAdd, Nat.reduceSub, m1, m3]
  · unfold bC2
    simp only [ap_var, ap_c, ap_op, ap_nil, ap_cons, ap_bi, ap_seq, ap_if, ap_asg, ap_nm, ap_ret, ap_next, ap_drop, ap_sl, ap_oN, ap_oS, ap_setIx, ap_augIx, ap_lst, R.bind_ok, R.bind_exc, R.bind_stuck, R.out_ok, R.out_exc, R.out_stuck, Out.seq_nx, Out.seq_rt, onBO_true, onBO_false, onB_true, onB_false, endF_rt, endF_nx, dEq_ii, dNe_ii, dLt_ii, dGt_ii, dLe_ii, dGe_ii, dAdd_ii, bInt_i, List.getElem?_cons_zero, List.getElem?_cons_succ, List.set_cons_zero, List.set_cons_succ, List.map_cons, List.map_nil, List.length_cons, List.length_nil, List.replicate, List.cons_append, List.nil_append, Nat.reduceAdd, Nat.reduceSub, m2, m3]
    rw [Int.mul_comm 257 c]
theorem chk_loop {t : Option D} {b : SS} (hb : ∀ c x : Int, 0 ≤ c → c < 2 ^ 100 → b [t, some (.int c), some (.int x)] [] = .nx [t, some (.int ((c * 257 + x + 1) % 4294967291)), some (.int x)] []) :
    ∀ (xs : List Int) (c : Int) (r : Option D), 0 ≤ c → c < 2 ^ 100 → ∃ r', forL [] (gNm 2) b (xs.map D.int) [t, some (.int c), r] [] = .nx [t, some (.int (chk c xs)), r'] [] := by
  intro xs
  induction xs with
  | nil =>
    intro c r _ _
    refine ⟨r, ?_⟩
    rw [List.map_nil]
    unfold forL
    rw [if_pos (heldOk_nil [])]
    rfl
  | cons x xs ih =>
    intro c r h0 h1
    obtain ⟨r', e⟩ := ih ((c * 257 + x + 1) % 4294967291) (some (.int x)) (by omega) (by omega)
    refine ⟨r', ?_⟩
    rw [List.map_cons]
    unfold forL
    rw [if_pos (heldOk_nil [])]
    have eg : gNm 2 (.int x) [t, some (.int c), r] = some [t, some (.int c), some (.int x)] := rfl
    simp only [eg, hb c x h0 h1]
    exact e
theorem check_run (xs : List Int) : F_check_of [.tup (xs.map .int)] [] = .ok (.int (chk 1 xs)) [] ∧ F__law_check [.tup (xs.map .int)] [] = .ok (.int (chk 1 xs)) [] ∧ True := by
  obtain ⟨r1, e1⟩ := chk_loop (t := some (.tup (xs.map .int))) (b := bC) (fun c x h0 h1 => (chk_turn h0 h1).1) xs 1 none (by decide) (by decide)
  obtain ⟨r2, e2⟩ := chk_loop (t := some (.tup (xs.map .int))) (b := bC1) (fun c x h0 h1 => (chk_turn h0 h1).2.1) xs 1 none (by decide) (by decide)
  obtain ⟨r3, e3⟩ := chk_loop (t := some (.tup (xs.map .int))) (b := bC2) (fun c x h0 h1 => (chk_turn h0 h1).2.2) xs 1 none (by decide) (by decide)
  refine ⟨?_, ?_, ?_⟩
  · show endF ((forL [] (gNm 2) bC (xs.map D.int) [some (.tup (xs.map .int)), some (.int 1), none] []).seq (sRet (cVar 1))) = _
    rw [e1]
    rfl
  · show endF ((forL [] (gNm 2) bC1 (xs.map D.int) [some (.tup (xs.map .int)), some (.int 1), none] []).seq (sRet (cVar 1))) = _
    rw [e2]
    rfl
  · trivial
theorem star_run {f : SE} {g : SA} {ρ : Rho} {ah ah1 ah2 : List AO} {d : D} {xs ds : List D} (h1 : f ρ ah = .ok d ah1) (h2 : itemsOf ah1 d = some xs) (h3 : g ρ ah1 = .ok ds ah2) : aStar f g ρ ah = .ok (xs ++ ds) ah2 := by
  unfold aStar
  rw [h1]
  simp only [R.bind_ok, h2, h3]
theorem and255 (n : Int) : Builtin.bitAnd n 255 = n % 256 := by
  have := PySem.W.kbt_mask n 8
  have e : ((2 : Int) ^ 8 - 1) = 255 := by decide
  rw [e] at this
  exact this
theorem shr_ii {a : Int} {k : Int} {ah : List AO} (h : (0 ≤ k) ∧ k < 9000) : dShr (.int a) (.int k) ah = .ok (.int (a / 2 ^ k.toNat)) ah := dInt_ii (by simp [h.1])
theorem and255_ii {a : Int} {ah : List AO} : dAnd (.int a) (.int 255) ah = .ok (.int (a % 256)) ah := by
  show R.ok (D.int (Builtin.bitAnd a 255)) _ = _
  rw [and255]
theorem chk_bound : ∀ (xs : List Int) (c : Int), 0 ≤ c → c < 4294967291 → 0 ≤ chk c xs ∧ chk c xs < 4294967291 := by
  intro xs
  induction xs with
  | nil => exact fun c h0 h1 => ⟨h0, h1⟩
  | cons x xs ih => exact fun c h0 h1 => ih _ (by omega) (by omega)
def tl4 (c : Int) : List Int := [c / 16777216, c / 65536 % 256, c / 256 % 256, c % 256]
def sld (xs : List Int) : List Int := xs ++ tl4 (chk 1 xs)
theorem sealed_run {xs : List Int} (hl : xs.length + 4 ≤ sizeLine) : F_sealed [.tup (xs.map .int)] [] = .ok (.tup ((sld xs).map .int)) [] := by
  have hC : cCallP 1 F_check_of (aCons (cVar 0) aNil) [some (.tup (xs.map .int)), none] [] = .ok (.int (chk 1 xs)) [] :=
    callP_gen (ds := [.tup (xs.map .int)]) rfl rfl (by simp [calmD, D.nr, nrs_ints]) (check_run xs).1 rfl
  have s1 : dShr (.int (chk 1 xs)) (.int 24) [] = .ok (.int (chk 1 xs / 16777216)) [] := shr_ii (by decide)
  have s2 : dShr (.int (chk 1 xs)) (.int 16) [] = .ok (.int (chk 1 xs / 65536)) [] := shr_ii (by decide)
  have s3 : dShr (.int (chk 1 xs)) (.int 8) [] = .ok (.int (chk 1 xs / 256)) [] := shr_ii (by decide)
  have hT : cTup (aStar (cVar 0) (aCons (cOp dShr (cVar 1) (cC (.int 24))) (aCons (cOp dAnd (cOp dShr (cVar 1) (cC (.int 16))) (cC (.int 255))) (aCons (cOp dAnd (cOp dShr (cVar 1) (cC (.int 8))) (cC (.int 255))) (aCons (cOp dAnd (cVar 1) (cC (.int 255))) aNil))))) [some (.tup (xs.map .int)), some (.int (chk 1 xs))] [] = .ok (.tup ((sld xs).map .int)) [] := by
    have hs : aStar (cVar 0) (aCons (cOp dShr (cVar 1) (cC (.int 24))) (aCons (cOp dAnd (cOp dShr (cVar 1) (cC (.int 16))) (cC (.int 255))) (aCons (cOp dAnd (cOp dShr (cVar 1) (cC (.int 8))) (cC (.int 255))) (aCons (cOp dAnd (cVar 1) (cC (.int 255))) aNil)))) [some (.tup (xs.map .int)), some (.int (chk 1 xs))] [] = .ok ((sld xs).map .int) [] := by
      have ht : (aCons (cOp dShr (cVar 1) (cC (.int 24))) (aCons (cOp dAnd (cOp dShr (cVar 1) (cC (.int 16))) (cC (.int 255))) (aCons (cOp dAnd (cOp dShr (cVar 1) (cC (.int 8))) (cC (.int 255))) (aCons (cOp dAnd (cVar 1) (cC (.int 255))) aNil)))) [some (.tup (xs.map .int)), some (.int (chk 1 xs))] [] = .ok ((tl4 (chk 1 xs)).map .int) [] := by
        simp only [ap_var, ap_c, ap_op, ap_nil, ap_cons, ap_bi, ap_seq, ap_if, ap_asg, ap_nm, ap_ret, ap_next, ap_drop, ap_sl, ap_oN, ap_oS, ap_setIx, ap_augIx, ap_lst, R.bind_ok, R.bind_exc, R.bind_stuck, R.out_ok, R.out_exc, R.out_stuck, Out.seq_nx, Out.seq_rt, onBO_true, onBO_false, onB_true, onB_false, endF_rt, endF_nx, dEq_ii, dNe_ii, dLt_ii, dGt_ii, dLe_ii, dGe_ii, dAdd_ii, bInt_i, List.getElem?_cons_zero, List.getElem?_cons_succ, List.set_cons_zero, List.set_cons_succ, List.map_cons, List.map_nil, List.length_cons, List.length_nil, List.replicate, List.cons_append, List.nil_append, Nat.reduceAdd, Nat.reduceSub, s1, s2, s3, and255_ii]
        rfl
      unfold sld
      rw [List.map_append]
      exact star_run (d := .tup (xs.map .int)) rfl rfl ht
    unfold cTup
    rw [hs]
    have hz : ((sld xs).map D.int).length ≤ sizeLine := by
      unfold sld
      rw [List.length_map, List.length_append]
      exact hl
    simp only [R.bind_ok, if_pos hz]
  show endF (sSeq (sAsg (cCallP 1 F_check_of (aCons (cVar 0) aNil)) (gNm 1)) (sRet (cTup (aStar (cVar 0) (aCons (cOp dShr (cVar 1) (cC (.int 24))) (aCons (cOp dAnd (cOp dShr (cVar 1) (cC (.int 16))) (cC (.int 255))) (aCons (cOp dAnd (cOp dShr (cVar 1) (cC (.int 8))) (cC (.int 255))) (aCons (cOp dAnd (cVar 1) (cC (.int 255))) aNil))))))) [some (.tup (xs.map .int)), none] []) = _
  simp only [ap_var, ap_c, ap_op, ap_nil, ap_cons, ap_bi, ap_seq, ap_if, ap_asg, ap_nm, ap_ret, ap_next, ap_drop, ap_sl, ap_oN, ap_oS, ap_setIx, ap_augIx, ap_lst, R.bind_ok, R.bind_exc, R.bind_stuck, R.out_ok, R.out_exc, R.out_stuck, Out.seq_nx, Out.seq_rt, onBO_true, onBO_false, onB_true, onB_false, endF_rt, endF_nx, dEq_ii, dNe_ii, dLt_ii, dGt_ii, dLe_ii, dGe_ii, dAdd_ii, bInt_i, List.getElem?_cons_zero, List.getElem?_cons_succ, List.set_cons_zero, List.set_cons_succ, List.map_cons, List.map_nil, List.length_cons, List.length_nil, List.replicate, List.cons_append, List.nil_append, Nat.reduceAdd, Nat.reduceSub, hC, hT]
theorem fl_nil {g : SG} {b : SS} {ρ : Rho} {ah : List AO} : forL [] g b [] ρ ah = .nx ρ ah := by
  unfold forL
  rw [if_pos (heldOk_nil ah)]
theorem fl_cons {g : SG} {b : SS} {d : D} {ds : List D} {ρ ρ1 ρ2 : Rho} {ah ah2 : List AO} (h1 : g d ρ = some ρ1) (h2 : b ρ1 ah = .nx ρ2 ah2) : forL [] g b (d :: ds) ρ ah = forL [] g b ds ρ2 ah2 := by
  rw [forL]
  show (if heldOk [] ah = true then _ else _) = _
  rw [if_pos (heldOk_nil ah)]
  simp only [h1, h2]
noncomputable def bT : SS := sSeq (sDrop (cMtL mAppend (cVar 2) (aCons (cOp dMod (cBi bInt (aCons (cVar 1) aNil)) (cC (.int 256))) aNil))) (sAsg (cOp dDiv (cBi bInt (aCons (cVar 1) aNil)) (cC (.int 256))) (gNm 1))
theorem bT_run {t i : Option D} {c : Int} {acc : List D} (h : acc.length < sizeLine) : bT [t, some (.int c), some (.ref 0), i] [.lst acc] = .nx [t, some (.int (c / 256)), some (.ref 0), i] [.lst (acc ++ [.int (c % 256)])] := by
  have m : dMod (.int c) (.int 256) [.lst acc] = .ok (.int (c % 256)) [.lst acc] := mod_ok (by decide)
  have m2 : dDiv (.int c) (.int 256) [.lst (acc ++ [.int (c % 256)])] = .ok (.int (c / 256)) [.lst (acc ++ [.int (c % 256)])] := div_ok (by decide) (by decide)
  have e3 : cMtL mAppend (cVar 2) (aCons (cOp dMod (cBi bInt (aCons (cVar 1) aNil)) (cC (.int 256))) aNil) [t, some (.int c), some (.ref 0), i] [.lst acc] = .ok .non [.lst (acc ++ [.int (c % 256)])] := by
    unfold cMtL
    simp only [ap_var, ap_c, ap_op, ap_nil, ap_cons, ap_bi, ap_seq, ap_if, ap_asg, ap_nm, ap_ret, ap_next, ap_drop, ap_sl, ap_oN, ap_oS, ap_setIx, ap_augIx, ap_lst, R.bind_ok, R.bind_exc, R.bind_stuck, R.out_ok, R.out_exc, R.out_stuck, Out.seq_nx, Out.seq_rt, onBO_true, onBO_false, onB_true, onB_false, endF_rt, endF_nx, dEq_ii, dNe_ii, dLt_ii, dGt_ii, dLe_ii, dGe_ii, dAdd_ii, bInt_i, List.getElem?_cons_zero, List.getElem?_cons_succ, List.set_cons_zero, List.set_cons_succ, List.map_cons, List.map_nil, List.length_cons, List.length_nil, List.replicate, List.cons_append, List.nil_append, Nat.reduceAdd, Nat.reduceSub, onLst_ref 0 [.lst acc] acc _ rfl, m, app_run h]
  unfold bT
  simp only [ap_var, ap_c, ap_op, ap_nil, ap_cons, ap_bi, ap_seq, ap_if, ap_asg, ap_nm, ap_ret, ap_next, ap_drop, ap_sl, ap_oN, ap_oS, ap_setIx, ap_augIx, ap_lst, R.bind_ok, R.bind_exc, R.bind_stuck, R.out_ok, R.out_exc, R.out_stuck, Out.seq_nx, Out.seq_rt, onBO_true, onBO_false, onB_true, onB_false, endF_rt, endF_nx, dEq_ii, dNe_ii, dLt_ii, dGt_ii, dLe_ii, dGe_ii, dAdd_ii, bInt_i, List.getElem?_cons_zero, List.getElem?_cons_succ, List.set_cons_zero, List.set_cons_succ, List.map_cons, List.map_nil, List.length_cons, List.length_nil, List.replicate, List.cons_append, List.nil_append, Nat.reduceAdd, Nat.reduceSub, e3, m2]
theorem bT_all {t : Option D} {c : Int} : ∃ r c', forL [] (gNm 3) bT (rng 0 4) [t, some (.int c), some (.ref 0), none] [.lst []] = .nx [t, some (.int c'), some (.ref 0), r] [.lst [.int (c % 256), .int (c / 256 % 256), .int (c / 256 / 256 % 256), .int (c / 256 / 256 / 256 % 256)]] := by
  have hz : 10 ≤ sizeLine := by decide
  refine ⟨some (.int 3), c / 256 / 256 / 256 / 256, ?_⟩
  show forL [] (gNm 3) bT [.int 0, .int 1, .int 2, .int 3] _ _ = _
  rw [fl_cons (ρ1 := [t, some (.int c), some (.ref 0), some (.int 0)]) rfl (bT_run (Nat.lt_of_lt_of_le (by decide) hz))]
  rw [fl_cons (ρ1 := [t, some (.int (c / 256)), some (.ref 0), some (.int 1)]) rfl (bT_run (Nat.lt_of_lt_of_le (by simp) hz))]
  rw [fl_cons (ρ1 := [t, some (.int (c / 256 / 256)), some (.ref 0), some (.int 2)]) rfl (bT_run (Nat.lt_of_lt_of_le (by simp) hz))]
  rw [fl_cons (ρ1 := [t, some (.int (c / 256 / 256 / 256)), some (.ref 0), some (.int 3)]) rfl (bT_run (Nat.lt_of_lt_of_le (by simp) hz))]
  rw [fl_nil]
  rfl
theorem law_sealed_run {xs : List Int} (hl : xs.length + 4 ≤ sizeLine) : ∃ ah, F__law_sealed [.tup (xs.map .int)] [] = .ok (.tup ((sld xs).map .int)) ah := by
  have hC : cCallP 1 F__law_check (aCons (cVar 0) aNil) [some (.tup (xs.map .int)), none, none, none] [] = .ok (.int (chk 1 xs)) [] :=
    callP_gen (ds := [.tup (xs.map .int)]) rfl rfl (by simp [calmD, D.nr, nrs_ints]) (check_run xs).2.1 rfl
  have hb := chk_bound xs 1 (by decide) (by decide)
  obtain ⟨r, c', e⟩ := bT_all (t := some (.tup (xs.map .int))) (c := chk 1 xs)
  refine ⟨[.lst [.int (chk 1 xs % 256), .int (chk 1 xs / 256 % 256), .int (chk 1 xs / 256 / 256 % 256), .int (chk 1 xs / 256 / 256 / 256 % 256)]], ?_⟩
  have eP : sPar 1 2 (aCons (cCallP 1 F__law_check (aCons (cVar 0) aNil)) (aCons (cLstM aNil) aNil)) [some (.tup (xs.map .int)), none, none, none] [] = .nx [some (.tup (xs.map .int)), some (.int (chk 1 xs)), some (.ref 0), none] [.lst []] := by
    unfold sPar
    simp only [ap_var, ap_c, ap_op, ap_nil, ap_cons, ap_bi, ap_seq, ap_if, ap_asg, ap_nm, ap_ret, ap_next, ap_drop, ap_sl, ap_oN, ap_oS, ap_setIx, ap_augIx, ap_lst, R.bind_ok, R.bind_exc, R.bind_stuck, R.out_ok, R.out_exc, R.out_stuck, Out.seq_nx, Out.seq_rt, onBO_true, onBO_false, onB_true, onB_false, endF_rt, endF_nx, dEq_ii, dNe_ii, dLt_ii, dGt_ii, dLe_ii, dGe_ii, dAdd_ii, bInt_i, List.getElem?_cons_zero, List.getElem?_cons_succ, List.set_cons_zero, List.set_cons_succ, List.map_cons, List.map_nil, List.length_cons, List.length_nil, List.replicate, List.cons_append, List.nil_append, Nat.reduceAdd, Nat.reduceSub, hC, lstM_nil]
  have eF : sFor (iRange1 (aCons (cC (.int 4)) aNil)) (gNm 3) bT [some (.tup (xs.map .int)), some (.int (chk 1 xs)), some (.ref 0), none] [.lst []] = forL [] (gNm 3) bT (rng 0 4) [some (.tup (xs.map .int)), some (.int (chk 1 xs)), some (.ref 0), none] [.lst []] := rfl
  show endF (sSeq (sPar 1 2 (aCons (cCallP 1 F__law_check (aCons (cVar 0) aNil)) (aCons (cLstM aNil) aNil))) (sSeq (sFor (iRange1 (aCons (cC (.int 4)) aNil)) (gNm 3) bT) (sRet (cOp dAdd (cBi bTuple (aCons (cVar 0) aNil)) (cBi bTuple (aCons (cRev (cVar 2)) aNil))))) [some (.tup (xs.map .int)), none, none, none] []) = _
  rw [ap_seq, eP]
  show endF (sSeq (sFor (iRange1 (aCons (cC (.int 4)) aNil)) (gNm 3) bT) _ _ _) = _
  rw [ap_seq, eF, e]
  have eq : sld xs = xs ++ [chk 1 xs / 256 / 256 / 256 % 256, chk 1 xs / 256 / 256 % 256, chk 1 xs / 256 % 256, chk 1 xs % 256] := by
    unfold sld tl4
    have q1 : chk 1 xs / 256 / 256 / 256 % 256 = chk 1 xs / 16777216 := by omega
    have q2 : chk 1 xs / 256 / 256 % 256 = chk 1 xs / 65536 % 256 := by omega
    rw [q1, q2]
  rw [eq, List.map_append]
  have hz : (xs.map D.int).length + 4 ≤ sizeLine := by rw [List.length_map]; exact hl
  show endF ((if (xs.map D.int).length + 4 ≤ sizeLine then R.ok (D.tup (xs.map D.int ++ _)) _ else R.stuck).out _ _) = _
  rw [if_pos hz]
  rfl
def badD (i : Int) : D := .tup [.str (Str.ofString "bad"), .int i, .str (Str.ofString "integer")]
noncomputable def bR : SS := (sSeq (sAsg (cOp dAdd (cVar 2) (cOp dMul (cVar 3) (cBi bInt (aCons (cOp dMod (cOp dIx (cVar 0) (cVar 4)) (cC (.int 128))) aNil)))) (gNm 2))
    (sSeq (sAsg (cOp dMul (cVar 3) (cC (.int 128))) (gNm 3))
    (sIf (cOp dLt (cOp dIx (cVar 0) (cVar 4)) (cC (.int 128))) (sSeq (sIf (cAnd (cOp dGt (cVar 4) (cVar 1)) (cOp dEq (cOp dIx (cVar 0) (cVar 4)) (cC (.int 0)))) (sRet (cTup (aCons (cC (.str (Str.ofString "bad"))) (aCons (cVar 1) (aCons (cC (.str (Str.ofString "integer"))) aNil))))) sNext)
    (sRet (cTup (aCons (cVar 2) (aCons (cOp dAdd (cVar 4) (cC (.int 1))) aNil))))) sNext)))
theorem bR_on {os : List D} {i v m k x : Int} (hx : dIx (.tup os) (.int k) [] = .ok (.int x) []) (hb : 128 ≤ x) (hm : 0 ≤ m) (hm2 : m < 2 ^ 90000) (hx2 : x < 256) :
    bR [some (.tup os), some (.int i), some (.int v), some (.int m), some (.int k)] [] = .nx [some (.tup os), some (.int i), some (.int (v + m * (x % 128))), some (.int (m * 128)), some (.int k)] [] := by
  have l1 : m.natAbs.log2 < 90000 := log2_le hm hm2 (by decide)
  have l2 : (x % 128).natAbs.log2 < 8 := log2_le (by omega) (by omega) (by decide)
  have e1 : dMod (.int x) (.int 128) [] = .ok (.int (x % 128)) [] := mod_ok (by decide)
  have e2 : dMul (.int m) (.int (x % 128)) [] = .ok (.int (m * (x % 128))) [] := mul_ok (by omega)
  have l3 : (128 : Int).natAbs.log2 < 8 := by decide +kernel
  have e3 : dMul (.int m) (.int 128) [] = .ok (.int (m * 128)) [] := mul_ok (by omega)
  have e4 : decide (x < 128) = false := by simp; omega
  unfold bR
  simp only [ap_var, ap_c, ap_op, ap_nil, ap_cons, ap_bi, ap_seq, ap_if, ap_asg, ap_nm, ap_ret, ap_next, ap_drop, ap_sl, ap_oN, ap_oS, ap_setIx, ap_augIx, ap_lst, R.bind_ok, R.bind_exc, R.bind_stuck, R.out_ok, R.out_exc, R.out_stuck, Out.seq_nx, Out.seq_rt, onBO_true, onBO_false, onB_true, onB_false, endF_rt, endF_nx, dEq_ii, dNe_ii, dLt_ii, dGt_ii, dLe_ii, dGe_ii, dAdd_ii, bInt_i, List.getElem?_cons_zero, List.getElem?_cons_succ, List.set_cons_zero, List.set_cons_succ, List.map_cons, List.map_nil, List.length_cons, List.length_nil, List.replicate, List.cons_append, List.nil_append, Nat.reduceAdd, Nat.reduceSub, hx, e1, e2, e3, e4]
theorem ap_and {f g : SE} {ρ : Rho} {ah : List AO} : cAnd f g ρ ah = (f ρ ah).bind fun d ah1 => onB d (g ρ ah1) (.ok (.bl false) ah1) := rfl
theorem bR_off {os : List D} {i v m k x : Int} (hx : dIx (.tup os) (.int k) [] = .ok (.int x) []) (hx0 : 0 ≤ x) (hb : x < 128) (hm : 0 ≤ m) (hm2 : m < 2 ^ 90000) :
    bR [some (.tup os), some (.int i), some (.int v), some (.int m), some (.int k)] [] = .rt (if i < k ∧ x = 0 then badD i else .tup [.int (v + m * x), .int (k + 1)]) [] := by
  have l1 : m.natAbs.log2 < 90000 := log2_le hm hm2 (by decide)
  have hx3 : x % 128 = x := by omega
  have l2 : (x % 128).natAbs.log2 < 8 := log2_le (by omega) (by omega) (by decide)
  have e1 : dMod (.int x) (.int 128) [] = .ok (.int (x % 128)) [] := mod_ok (by decide)
  have e2 : dMul (.int m) (.int (x % 128)) [] = .ok (.int (m * (x % 128))) [] := mul_ok (by omega)
  have l3 : (128 : Int).natAbs.log2 < 8 := by decide +kernel
  have e3 : dMul (.int m) (.int 128) [] = .ok (.int (m * 128)) [] := mul_ok (by omega)
  have e4 : decide (x < 128) = true := by simp; omega
  have z2 : 2 ≤ sizeLine := by decide
  have z3 : 3 ≤ sizeLine := by decide
  unfold bR
  by_cases h1 : i < k
  · have d1 : decide (i < k) = true := by simp [h1]
    by_cases h2 : x = 0
    · have d2 : (x == 0) = true := by simp [h2]
      rw [if_pos ⟨h1, h2⟩]
      unfold cTup badD
      simp only [ap_var, ap_c, ap_op, ap_nil, ap_cons, ap_bi, ap_seq, ap_if, ap_asg, ap_nm, ap_ret, ap_next, ap_drop, ap_sl, ap_oN, ap_oS, ap_setIx, ap_augIx, ap_lst, R.bind_ok, R.bind_exc, R.bind_stuck, R.out_ok, R.out_exc, R.out_stuck, Out.seq_nx, Out.seq_rt, onBO_true, onBO_false, onB_true, onB_false, endF_rt, endF_nx, dEq_ii, dNe_ii, dLt_ii, dGt_ii, dLe_ii, dGe_ii, dAdd_ii, bInt_i, List.getElem?_cons_zero, List.getElem?_cons_succ, List.set_cons_zero, List.set_cons_succ, List.map_cons, List.map_nil, List.length_cons, List.length_nil, List.replicate, List.cons_append, List.nil_append, Nat.reduceAdd, Nat.reduceSub, ap_and, hx, e1, e2, e3, e4, d1, d2, if_pos z2, if_pos z3]
    · have d2 : (x == 0) = false := by simp [h2]
      rw [if_neg (fun h => h2 h.2)]
      unfold cTup
      simp only [ap_var, ap_c, ap_op, ap_nil, ap_cons, ap_bi, ap_seq, ap_if, ap_asg, ap_nm, ap_ret, ap_next, ap_drop, ap_sl, ap_oN, ap_oS, ap_setIx, ap_augIx, ap_lst, R.bind_ok, R.bind_exc, R.bind_stuck, R.out_ok, R.out_exc, R.out_stuck, Out.seq_nx, Out.seq_rt, onBO_true, onBO_false, onB_true, onB_false, endF_rt, endF_nx, dEq_ii, dNe_ii, dLt_ii, dGt_ii, dLe_ii, dGe_ii, dAdd_ii, bInt_i, List.getElem?_cons_zero, List.getElem?_cons_succ, List.set_cons_zero, List.set_cons_succ, List.map_cons, List.map_nil, List.length_cons, List.length_nil, List.replicate, List.cons_append, List.nil_append, Nat.reduceAdd, Nat.reduceSub, ap_and, hx, e1, e2, e3, e4, d1, d2, if_pos z2, if_pos z3]
      simp [z2, z3, hx3]
  · have d1 : decide (i < k) = false := by simp; omega
    rw [if_neg (fun h => h1 h.1)]
    unfold cTup
    simp only [ap_var, ap_c, ap_op, ap_nil, ap_cons, ap_bi, ap_seq, ap_if, ap_asg, ap_nm, ap_ret, ap_next, ap_drop, ap_sl, ap_oN, ap_oS, ap_setIx, ap_augIx, ap_lst, R.bind_ok, R.bind_exc, R.bind_stuck, R.out_ok, R.out_exc, R.out_stuck, Out.seq_nx, Out.seq_rt, onBO_true, onBO_false, onB_true, onB_false, endF_rt, endF_nx, dEq_ii, dNe_ii, dLt_ii, dGt_ii, dLe_ii, dGe_ii, dAdd_ii, bInt_i, List.getElem?_cons_zero, List.getElem?_cons_succ, List.set_cons_zero, List.set_cons_succ, List.map_cons, List.map_nil, List.length_cons, List.length_nil, List.replicate, List.cons_append, List.nil_append, Nat.reduceAdd, Nat.reduceSub, ap_and, hx, e1, e2, e3, e4, d1, if_pos z2, if_pos z3]
    simp [z2, z3, hx3]
theorem atI_app {α : Type} {pre : List α} {x : α} {xs : List α} {k : Int} (h : k = (pre.length : Nat)) : atI (pre ++ x :: xs) k = some x := by
  subst h
  unfold atI ixN
  rw [if_pos (by omega), if_pos (by rw [List.length_append, List.length_cons]; omega)]
  show (pre ++ x :: xs)[((pre.length : Nat) : Int).toNat]? = _
  rw [Int.toNat_natCast, List.getElem?_append_right (Nat.le_refl _), Nat.sub_self]; rfl
theorem dIx_app {pre xs : List Int} {x k : Int} {ah : List AO} (h : k = (pre.length : Nat)) : dIx (.tup ((pre ++ x :: xs).map .int)) (.int k) ah = .ok (.int x) ah := by
  show ret? (atI ((pre ++ x :: xs).map D.int) k) ah = _
  rw [List.map_append, List.map_cons, atI_app (by rw [List.length_map]; exact h)]; rfl
theorem rng_succ (k : Int) (n : Nat) : rng k (n + 1) = .int k :: rng (k + 1) n := by
  unfold rng
  rw [List.range_succ_eq_map, List.map_cons, List.map_map]
  congr 1
  · simp
  · apply List.map_congr_left
    intro a _
    show D.int (k + ((a + 1 : Nat) : Int)) = D.int (k + 1 + (a : Int))
    congr 1
    omega
theorem pow_mono {a b : Nat} (h : a ≤ b) : (2 : Int) ^ a ≤ 2 ^ b := by
  rw [← PySem.W.kbt_cast, ← PySem.W.kbt_cast]
  exact Int.ofNat_le.mpr (Nat.pow_le_pow_right (by decide) h)
theorem range2_run {g : SA} {ρ : Rho} {ah ah1 : List AO} {i j : Int} (hg : g ρ ah = .ok [.int i, .int j] ah1) (q : (rngOk i && rngOk j && decide (decide ((j - i).toNat ≤ sizeLine) = true)) = true) : iRange2 g ρ ah = .ok ⟨rng i (j - i).toNat, []⟩ ah1 := by
  unfold iRange2
  rw [hg, R.bind_ok]
  exact if_pos q
def rd (i : Int) : Int → Int → Int → List Int → D
  | _, _, _, [] => badD i
  | k, v, m, x :: xs => if 128 ≤ x then rd i (k + 1) (v + m * (x % 128)) (m * 128) xs else if i < k ∧ x = 0 then badD i else .tup [.int (v + m * x), .int (k + 1)]
noncomputable def cBad : SS := sRet (cTup (aCons (cC (.str (Str.ofString "bad"))) (aCons (cVar 1) (aCons (cC (.str (Str.ofString "integer"))) aNil))))
theorem fl_rt {g : SG} {b : SS} {d y : D} {ds : List D} {ρ ρ1 : Rho} {ah ah2 : List AO} (h1 : g d ρ = some ρ1) (h2 : b ρ1 ah = .rt y ah2) : forL [] g b (d :: ds) ρ ah = .rt y ah2 := by
  rw [forL]
  show (if heldOk [] ah = true then _ else _) = _
  rw [if_pos (heldOk_nil ah)]
  simp only [h1, h2]
/-! the program's reading -/
def sp : List Int → Nat
  | [] => 0
  | x :: xs => if 128 ≤ x then sp xs + 1 else 0
noncomputable def tRd : SE := cAnd (cOp dLt (cVar 2) (cBi bLen (aCons (cVar 0) aNil))) (cOp dGe (cOp dIx (cVar 0) (cVar 2)) (cC (.int 128)))
noncomputable def bRd : SS := sAug 2 dAddI (cC (.int 1))
theorem rd_loop {i r : Option D} : ∀ (xs pre : List Int), sWhile tRd bRd [some (.tup ((pre ++ xs).map .int)), i, some (.int (pre.length : Nat)), r] [] = .nx [some (.tup ((pre ++ xs).map .int)), i, some (.int ((pre.length + sp xs : Nat) : Int)), r] [] := by
  intro xs
  induction xs with
  | nil =>
    intro pre
    rw [sWhile_eq]
    unfold whileStep
    have e1 : bLen [.tup ((pre ++ []).map .int)] [] = .ok (.int (pre.length : Nat)) [] := by
      show R.ok (D.int (((pre ++ []).map D.int).length : Nat)) [] = _
      rw [List.length_map, List.append_nil]
    have e2 : decide ((pre.length : Int) < (pre.length : Nat)) = false := by simp
    have e3 : tRd [some (.tup ((pre ++ []).map .int)), i, some (.int (pre.length : Nat)), r] [] = .ok (.bl false) [] := by
      unfold tRd
      simp only [ap_var, ap_c, ap_op, ap_nil, ap_cons, ap_bi, ap_seq, ap_if, ap_asg, ap_nm, ap_ret, ap_next, ap_drop, ap_sl, ap_oN, ap_oS, ap_setIx, ap_augIx, ap_lst, R.bind_ok, R.bind_exc, R.bind_stuck, R.out_ok, R.out_exc, R.out_stuck, Out.seq_nx, Out.seq_rt, onBO_true, onBO_false, onB_true, onB_false, endF_rt, endF_nx, dEq_ii, dNe_ii, dLt_ii, dGt_ii, dLe_ii, dGe_ii, dAdd_ii, bInt_i, List.getElem?_cons_zero, List.getElem?_cons_succ, List.set_cons_zero, List.set_cons_succ, List.map_cons, List.map_nil, List.length_cons, List.length_nil, List.replicate, List.cons_append, List.nil_append, Nat.reduceAdd, Nat.reduceSub, ap_and, e1, e2]
    rw [e3]
    rfl
  | cons x xs ih =>
    intro pre
    rw [sWhile_eq]
    unfold whileStep
    have e1 : bLen [.tup ((pre ++ x :: xs).map .int)] [] = .ok (.int ((pre.length + (xs.length + 1) : Nat) : Int)) [] := by
      show R.ok (D.int (((pre ++ x :: xs).map D.int).length : Nat)) [] = _
      rw [List.length_map, List.length_append, List.length_cons]
    have e2 : decide ((pre.length : Int) < ((pre.length + (xs.length + 1) : Nat) : Int)) = true := by simp; omega
    have e0 : dIx (.tup ((pre ++ x :: xs).map .int)) (.int (pre.length : Nat)) [] = .ok (.int x) [] := dIx_app rfl
    by_cases hb : 128 ≤ x
    · have e4 : decide (x < 128) = false := by simp; omega
      have e3 : tRd [some (.tup ((pre ++ x :: xs).map .int)), i, some (.int (pre.length : Nat)), r] [] = .ok (.bl true) [] := by
        unfold tRd
        simp only [ap_var, ap_c, ap_op, ap_nil, ap_cons, ap_bi, ap_seq, ap_if, ap_asg, ap_nm, ap_ret, ap_next, ap_drop, ap_sl, ap_oN, ap_oS, ap_setIx, ap_augIx, ap_lst, R.bind_ok, R.bind_exc, R.bind_stuck, R.out_ok, R.out_exc, R.out_stuck, Out.seq_nx, Out.seq_rt, onBO_true, onBO_false, onB_true, onB_false, endF_rt, endF_nx, dEq_ii, dNe_ii, dLt_ii, dGt_ii, dLe_ii, dGe_ii, dAdd_ii, bInt_i, List.getElem?_cons_zero, List.getElem?_cons_succ, List.set_cons_zero, List.set_cons_succ, List.map_cons, List.map_nil, List.length_cons, List.length_nil, List.replicate, List.cons_append, List.nil_append, Nat.reduceAdd, Nat.reduceSub, ap_and, e1, e2, e0, e4, Bool.not_false]
      have e5 : bRd [some (.tup ((pre ++ x :: xs).map .int)), i, some (.int (pre.length : Nat)), r] [] = .nx [some (.tup ((pre ++ x :: xs).map .int)), i, some (.int ((pre.length : Nat) + 1)), r] [] := by
        unfold bRd sAug
        simp only [ap_var, ap_c, ap_op, ap_nil, ap_cons, ap_bi, ap_seq, ap_if, ap_asg, ap_nm, ap_ret, ap_next, ap_drop, ap_sl, ap_oN, ap_oS, ap_setIx, ap_augIx, ap_lst, R.bind_ok, R.bind_exc, R.bind_stuck, R.out_ok, R.out_exc, R.out_stuck, Out.seq_nx, Out.seq_rt, onBO_true, onBO_false, onB_true, onB_false, endF_rt, endF_nx, dEq_ii, dNe_ii, dLt_ii, dGt_ii, dLe_ii, dGe_ii, dAdd_ii, bInt_i, List.getElem?_cons_zero, List.getElem?_cons_succ, List.set_cons_zero, List.set_cons_succ, List.map_cons, List.map_nil, List.length_cons, List.length_nil, List.replicate, List.cons_append, List.nil_append, Nat.reduceAdd, Nat.reduceSub, addI_ii]
      rw [e3]
      simp only [R.out_ok, onBO_true, e5]
      have := ih (pre ++ [x])
      rw [List.length_append, List.append_assoc] at this
      have q1 : (((pre.length + [x].length : Nat)) : Int) = (pre.length : Nat) + 1 := by simp
      rw [q1] at this
      rw [sp, if_pos hb]
      have q2 : pre.length + [x].length + sp xs = pre.length + (sp xs + 1) := by simp; omega
      rw [q2] at this
      exact this
    · have e4 : decide (x < 128) = true := by simp; omega
      have e3 : tRd [some (.tup ((pre ++ x :: xs).map .int)), i, some (.int (pre.length : Nat)), r] [] = .ok (.bl false) [] := by
        unfold tRd
        simp only [ap_var, ap_c, ap_op, ap_nil, ap_cons, ap_bi, ap_seq, ap_if, ap_asg, ap_nm, ap_ret, ap_next, ap_drop, ap_sl, ap_oN, ap_oS, ap_setIx, ap_augIx, ap_lst, R.bind_ok, R.bind_exc, R.bind_stuck, R.out_ok, R.out_exc, R.out_stuck, Out.seq_nx, Out.seq_rt, onBO_true, onBO_false, onB_true, onB_false, endF_rt, endF_nx, dEq_ii, dNe_ii, dLt_ii, dGt_ii, dLe_ii, dGe_ii, dAdd_ii, bInt_i, List.getElem?_cons_zero, List.getElem?_cons_succ, List.set_cons_zero, List.set_cons_succ, List.map_cons, List.map_nil, List.length_cons, List.length_nil, List.replicate, List.cons_append, List.nil_append, Nat.reduceAdd, Nat.reduceSub, ap_and, e1, e2, e0, e4, Bool.not_true]
      rw [e3, sp, if_neg hb]
      rfl
/-- lowest first, groups of seven bits -/
def hz : List Int → Int
  | [] => 0
  | x :: xs => x % 128 + 128 * hz xs
theorem rd_sp {i : Int} : ∀ (xs : List Int) (k v m : Int), (∀ x ∈ xs, 0 ≤ x) → rd i k v m xs = (if sp xs = xs.length then badD i else if i < k + sp xs ∧ xs.getD (sp xs) 0 = 0 then badD i else .tup [.int (v + m * hz (xs.take (sp xs + 1))), .int (k + sp xs + 1)]) := by
  intro xs
  induction xs with
  | nil => intro k v m _; rfl
  | cons x xs ih =>
    intro k v m hx
    have h0 := hx x List.mem_cons_self
    by_cases hb : 128 ≤ x
    · rw [rd, if_pos hb, ih _ _ _ (fun y hy => hx y (List.mem_cons_of_mem _ hy)), sp, if_pos hb, List.length_cons, List.getD_cons_succ, List.take_succ_cons, hz]
      have q1 : k + 1 + ((sp xs : Nat) : Int) = k + ((sp xs + 1 : Nat) : Int) := by omega
      have q2 : v + m * (x % 128) + m * 128 * hz (xs.take (sp xs + 1)) = v + m * (x % 128 + 128 * hz (xs.take (sp xs + 1))) := by
        rw [Int.mul_add, Int.mul_assoc]; omega
      rw [q1, q2]
      by_cases hq : sp xs = xs.length
      · have c2 : sp xs + 1 = xs.length + 1 := by omega
        rw [if_pos hq, if_pos c2]
      · have c2 : ¬ (sp xs + 1 = xs.length + 1) := by omega
        rw [if_neg hq, if_neg c2]
    · have c1 : ¬ (0 = xs.length + 1) := by omega
      rw [rd, if_neg hb, sp, if_neg hb, List.length_cons, if_neg c1]
      have q1 : k + ((0 : Nat) : Int) = k := by omega
      have q2 : hz (List.take (0 + 1) (x :: xs)) = x := by
        show x % 128 + 128 * 0 = x
        omega
      rw [q1, q2]
      rfl
theorem cl_nil {g : SG} {f : SE} {ρ : Rho} {acc : List D} {ah : List AO} : compL [] g cYes f ρ [] acc ah = .ok (.lst acc) ah := by
  unfold compL
  rw [if_pos (heldOk_nil ah)]
theorem cl_cons {g : SG} {f : SE} {ρ ρ1 : Rho} {d y : D} {ds acc : List D} {ah ah2 : List AO} (h1 : g d ρ = some ρ1) (h2 : f ρ1 ah = .ok y ah2) : compL [] g cYes f ρ (d :: ds) acc ah = compL [] g cYes f ρ ds (acc ++ [y]) ah2 := by
  rw [compL]
  show (if heldOk [] ah = true then _ else _) = _
  rw [if_pos (heldOk_nil ah), h1]
  show (((R.ok (D.bl true) ah : R D).nox).bind _) = _
  rw [R.nox_ok, R.bind_ok, onB_true, h2, R.nox_ok, R.bind_ok]
theorem cl_map {g : SG} {f : SE} {ρ : Rho} {ah : List AO} {α : Type} (a : α → D) (y : α → D) (hs : ∀ z, ∃ ρ1, g (a z) ρ = some ρ1 ∧ f ρ1 ah = .ok (y z) ah) : ∀ (zs : List α) (acc : List D), compL [] g cYes f ρ (zs.map a) acc ah = .ok (.lst (acc ++ zs.map y)) ah := by
  intro zs
  induction zs with
  | nil => intro acc; rw [List.map_nil, cl_nil, List.map_nil, List.append_nil]
  | cons z zs ih =>
    intro acc
    obtain ⟨ρ1, h1, h2⟩ := hs z
    rw [List.map_cons, cl_cons h1 h2, ih, List.map_cons, List.append_assoc]; rfl
def bt (q : Int) : Nat := if q % 2 = 0 then 48 else 49
def bits7 (x : Int) : List Nat := [bt (x / 64), bt (x / 32), bt (x / 16), bt (x / 8), bt (x / 4), bt (x / 2), bt (x / 1)]
noncomputable def eBt : SE := cIf (cTr (cOp dAnd (cVar 0) (cOp dShr (cOp dDiv (cC (.int 128)) (cC (.int 2))) (cVar 1)))) (cC (.str (Str.ofString "1"))) (cC (.str (Str.ofString "0")))
theorem one_str : Str.ofString "1" = ⟨#[49]⟩ ∧ Str.ofString "0" = ⟨#[48]⟩ := by
  constructor <;> decide +kernel
theorem bit_run {x j : Int} {k : Nat} (h0 : 0 ≤ j) (h1 : j < 9000) (h : (128 / 2 / 2 ^ j.toNat : Int) = 2 ^ k) : eBt [some (.int x), some (.int j)] [] = .ok (.str ⟨#[bt (x / 2 ^ k)]⟩) [] := by
  have e1 : dDiv (.int 128) (.int 2) [] = .ok (.int (128 / 2)) [] := div_ok (by decide) (by decide)
  have e2 : dShr (.int (128 / 2)) (.int j) [] = .ok (.int (2 ^ k)) [] := by rw [← h]; exact shr_ii ⟨h0, h1⟩
  have e3 : dAnd (.int x) (.int (2 ^ k)) [] = .ok (.int (x / 2 ^ k % 2 * 2 ^ k)) [] := by
    show R.ok (D.int (Builtin.bitAnd x (2 ^ k))) _ = _
    rw [PySem.W.kbt_bit]
  have hp : (0 : Int) < 2 ^ k := PySem.W.kbt_pos k
  unfold eBt cIf cTr
  simp only [ap_var, ap_c, ap_op, ap_nil, ap_cons, ap_bi, ap_seq, ap_if, ap_asg, ap_nm, ap_ret, ap_next, ap_drop, ap_sl, ap_oN, ap_oS, ap_setIx, ap_augIx, ap_lst, R.bind_ok, R.bind_exc, R.bind_stuck, R.out_ok, R.out_exc, R.out_stuck, Out.seq_nx, Out.seq_rt, onBO_true, onBO_false, onB_true, onB_false, endF_rt, endF_nx, dEq_ii, dNe_ii, dLt_ii, dGt_ii, dLe_ii, dGe_ii, dAdd_ii, bInt_i, List.getElem?_cons_zero, List.getElem?_cons_succ, List.set_cons_zero, List.set_cons_succ, List.map_cons, List.map_nil, List.length_cons, List.length_nil, List.replicate, List.cons_append, List.nil_append, Nat.reduceAdd, Nat.reduceSub, e1, e2, e3]
  unfold bt
  rcases Int.emod_two_eq (x / 2 ^ k) with q | q
  · rw [q, Int.zero_mul, if_pos rfl]
    show R.ok (D.str (Str.ofString "0")) [] = _
    rw [one_str.2]
  · rw [q, Int.one_mul, if_neg (by decide)]
    have e4 : tru [] (.int (2 ^ k)) = some true := by
      show some ((2 ^ k : Int) != 0) = some true
      congr 1
      simp only [bne_iff_ne, ne_eq]
      omega
    simp only [e4, R.bind_ok, onB_true, one_str.1]
theorem join_nil : ∀ ls : List (List Nat), TL.joinL [] ls = ls.flatten
  | [] => rfl
  | [p] => by simp [TL.joinL]
  | p :: q :: r => by rw [TL.joinL, join_nil (q :: r)]; simp
theorem str_ext {x y : Str} (h : x.cps.toList = y.cps.toList) : x = y := by
  cases x; cases y
  congr 1
  exact Array.ext' h
theorem join_e (ys : List Str) : Txt.join (Str.ofString "") ys = ⟨(ys.map TL.tl).flatten.toArray⟩ := by
  apply str_ext
  show TL.tl _ = _
  have e : TL.tl (Str.ofString "") = [] := by decide +kernel
  rw [TL.join_eq, TL.tl_join, e, join_nil]
theorem strs_of : ∀ ys : List Str, strsOf (ys.map .str) = some ys
  | [] => rfl
  | y :: ys => by
    rw [List.map_cons, strsOf, strs_of ys]; rfl
theorem strOk_bin {l : List Nat} (h : ∀ c ∈ l, Bn.IsBin c) : PyData.strOk ⟨l.toArray⟩ = true := by
  unfold PyData.strOk
  rw [Array.all_eq_true_iff_forall_mem]
  intro c hc
  have := h c (by simpa using hc)
  rcases this with rfl | rfl <;> decide
theorem bt_bin (q : Int) : Bn.IsBin (bt q) := by
  unfold bt Bn.IsBin
  split <;> simp
theorem bits7_bin (x : Int) : ∀ c ∈ bits7 x, Bn.IsBin c := by
  intro c hc
  simp only [bits7, List.mem_cons, List.not_mem_nil, or_false] at hc
  rcases hc with rfl | rfl | rfl | rfl | rfl | rfl | rfl <;> exact bt_bin _
theorem join_run {ys : List Str} {l : List Nat} (hl : (ys.map TL.tl).flatten = l) (hb : ∀ c ∈ l, Bn.IsBin c) (hz : (ys.map (·.length)).sum ≤ 16777216) {ah : List AO} : dJoin (Str.ofString "") (.lst (ys.map .str)) ah = .ok (.str ⟨l.toArray⟩) ah := by
  have e0 : (Str.ofString "").length = 0 := by decide +kernel
  unfold dJoin
  show (match (some (ys.map D.str)).bind strsOf with | some ys => _ | none => _) = _
  rw [Option.bind_some, strs_of]
  show (if (ys.map (·.length)).sum + ys.length * (Str.ofString "").length ≤ 16777216 ∧ PySem.PyData.strOk (Txt.join (Str.ofString "") ys) = true then R.ok (D.str (Txt.join (Str.ofString "") ys)) ah else R.stuck) = _
  rw [join_e, hl, e0, if_pos ⟨by omega, strOk_bin hb⟩]
theorem bits_run {x : Int} : F_bits_of [.int x] [] = .ok (.str ⟨(bits7 x).toArray⟩) [] := by
  have hc : cLc (iRange1 (aCons (cC (.int 7)) aNil)) (gNm 1) cYes eBt [1] [some (.int x), none] [] = .ok (.lst (((bits7 x).map fun c => (⟨#[c]⟩ : Str)).map .str)) [] := by
    show compL [] (gNm 1) cYes eBt [some (.int x), none] [.int 0, .int 1, .int 2, .int 3, .int 4, .int 5, .int 6] [] [] = _
    rw [cl_cons (ρ1 := [some (.int x), some (.int 0)]) rfl (bit_run (k := 6) (by decide) (by decide) (by decide)),
      cl_cons (ρ1 := [some (.int x), some (.int 1)]) rfl (bit_run (k := 5) (by decide) (by decide) (by decide)),
      cl_cons (ρ1 := [some (.int x), some (.int 2)]) rfl (bit_run (k := 4) (by decide) (by decide) (by decide)),
      cl_cons (ρ1 := [some (.int x), some (.int 3)]) rfl (bit_run (k := 3) (by decide) (by decide) (by decide)),
      cl_cons (ρ1 := [some (.int x), some (.int 4)]) rfl (bit_run (k := 2) (by decide) (by decide) (by decide)),
      cl_cons (ρ1 := [some (.int x), some (.int 5)]) rfl (bit_run (k := 1) (by decide) (by decide) (by decide)),
      cl_cons (ρ1 := [some (.int x), some (.int 6)]) rfl (bit_run (k := 0) (by decide) (by decide) (by decide)), cl_nil]
    rfl
  have hj := join_run (ys := (bits7 x).map fun c => (⟨#[c]⟩ : Str)) (l := bits7 x) rfl (bits7_bin x) (by show (7 : Nat) ≤ _; decide) (ah := [])
  show endF (sRet (cStr1 dJoin (cC (.str (Str.ofString ""))) (cLc (iRange1 (aCons (cC (.int 7)) aNil)) (gNm 1) cYes eBt [1])) [some (.int x), none] []) = _
  unfold cStr1
  simp only [ap_var, ap_c, ap_op, ap_nil, ap_cons, ap_bi, ap_seq, ap_if, ap_asg, ap_nm, ap_ret, ap_next, ap_drop, ap_sl, ap_oN, ap_oS, ap_setIx, ap_augIx, ap_lst, R.bind_ok, R.bind_exc, R.bind_stuck, R.out_ok, R.out_exc, R.out_stuck, Out.seq_nx, Out.seq_rt, onBO_true, onBO_false, onB_true, onB_false, endF_rt, endF_nx, dEq_ii, dNe_ii, dLt_ii, dGt_ii, dLe_ii, dGe_ii, dAdd_ii, bInt_i, List.getElem?_cons_zero, List.getElem?_cons_succ, List.set_cons_zero, List.set_cons_succ, List.map_cons, List.map_nil, List.length_cons, List.length_nil, List.replicate, List.cons_append, List.nil_append, Nat.reduceAdd, Nat.reduceSub, hc, hj]
theorem bv_bt (q : Int) : ((Bn.bv (bt q) : Nat) : Int) = q % 2 := by
  unfold bt Bn.bv
  rcases Int.emod_two_eq q with h | h
  · rw [h, if_pos rfl]; rfl
  · rw [h, if_neg (by decide)]; rfl
theorem bin_app (l : List Nat) (x : Int) : ((Bn.binNum (l ++ bits7 x) : Nat) : Int) = (Bn.binNum l : Nat) * 128 + x % 128 := by
  have e : Bn.binNum (l ++ bits7 x) = ((((((Bn.binNum l * 2 + Bn.bv (bt (x / 64))) * 2 + Bn.bv (bt (x / 32))) * 2 + Bn.bv (bt (x / 16))) * 2 + Bn.bv (bt (x / 8))) * 2 + Bn.bv (bt (x / 4))) * 2 + Bn.bv (bt (x / 2))) * 2 + Bn.bv (bt (x / 1)) := by
    unfold Bn.binNum
    rw [List.foldl_append]; rfl
  have h6 := bv_bt (x / 64)
  have h5 := bv_bt (x / 32)
  have h4 := bv_bt (x / 16)
  have h3 := bv_bt (x / 8)
  have h2 := bv_bt (x / 4)
  have h1 := bv_bt (x / 2)
  have h0 := bv_bt (x / 1)
  rw [e]
  omega
def bitsL (L : List Int) : List Nat := (L.reverse.map bits7).flatten
theorem bitsL_cons (x : Int) (L : List Int) : bitsL (x :: L) = bitsL L ++ bits7 x := by
  unfold bitsL
  simp
theorem bin_hz : ∀ L : List Int, ((Bn.binNum (bitsL L) : Nat) : Int) = hz L
  | [] => rfl
  | x :: L => by
    rw [bitsL_cons, bin_app, bin_hz L, hz]; omega
theorem bitsL_bin (L : List Int) : ∀ c ∈ bitsL L, Bn.IsBin c := by
  intro c hc
  unfold bitsL at hc
  rw [List.mem_flatten] at hc
  obtain ⟨l, hl, hc⟩ := hc
  obtain ⟨x, _, rfl⟩ := List.mem_map.mp hl
  exact bits7_bin x c hc
theorem bitsL_len : ∀ L : List Int, (bitsL L).length = 7 * L.length
  | [] => rfl
  | x :: L => by rw [bitsL_cons, List.length_append, bitsL_len L, List.length_cons]; show _ + 7 = _; omega
theorem cut_nat {α : Type} {xs : List α} {i j : Nat} (hi : i ≤ xs.length) (hj : j ≤ xs.length) : cut xs (some (i : Int)) (some (j : Int)) = (xs.drop i).take (j - i) := by
  unfold cut
  rw [HT.sIx_nat, HT.sIx_nat, Nat.min_eq_left hi, Nat.min_eq_left hj]
theorem sum_const {α : Type} (f : α → Nat) (k : Nat) : ∀ l : List α, (∀ x ∈ l, f x = k) → (l.map f).sum = l.length * k
  | [], _ => by simp
  | x :: l, h => by
    rw [List.map_cons, List.sum_cons, h x List.mem_cons_self, sum_const f k l (fun y hy => h y (List.mem_cons_of_mem _ hy)), List.length_cons, Nat.add_mul]; omega
/-- the digits' text -/
theorem text_run {os : List Int} {i j : Nat} {ρ3 : Option D} {y : D} (hi : i ≤ os.length) (hj : j + 1 ≤ os.length) (hl : os.length ≤ 1000) :
    cStr1 dJoin (cC (.str (Str.ofString ""))) (cLc (iOf (cRev (cSl (cVar 0) (oSome (cVar 1)) (oSome (cOp dAdd (cVar 2) (cC (.int 1))))))) (gNm 3) cYes (cCallP 1 F_bits_of (aCons (cVar 3) aNil)) [3]) [some (.tup (os.map .int)), some (.int i), some (.int j), none] [] = .ok (.str ⟨(bitsL ((os.drop i).take (j + 1 - i))).toArray⟩) [] := by
  have eS : cRev (cSl (cVar 0) (oSome (cVar 1)) (oSome (cOp dAdd (cVar 2) (cC (.int 1))))) [some (.tup (os.map .int)), some (.int i), some (.int j), none] [] = .ok (.tup ((((os.drop i).take (j + 1 - i)).reverse).map .int)) [] := by
    have e1 : dSl (.tup (os.map .int)) (some (i : Int)) (some ((j : Int) + 1)) [] = .ok (.tup (((os.drop i).take (j + 1 - i)).map .int)) [] := by
      show R.ok (D.tup (cut (os.map D.int) (some (i : Int)) (some ((j + 1 : Nat) : Int)))) [] = _
      rw [cut_nat (by rw [List.length_map]; exact hi) (by rw [List.length_map]; exact hj), List.map_take, List.map_drop]
    unfold cRev
    simp only [ap_var, ap_c, ap_op, ap_nil, ap_cons, ap_bi, ap_seq, ap_if, ap_asg, ap_nm, ap_ret, ap_next, ap_drop, ap_sl, ap_oN, ap_oS, ap_setIx, ap_augIx, ap_lst, R.bind_ok, R.bind_exc, R.bind_stuck, R.out_ok, R.out_exc, R.out_stuck, Out.seq_nx, Out.seq_rt, onBO_true, onBO_false, onB_true, onB_false, endF_rt, endF_nx, dEq_ii, dNe_ii, dLt_ii, dGt_ii, dLe_ii, dGe_ii, dAdd_ii, bInt_i, List.getElem?_cons_zero, List.getElem?_cons_succ, List.set_cons_zero, List.set_cons_succ, List.map_cons, List.map_nil, List.length_cons, List.length_nil, List.replicate, List.cons_append, List.nil_append, Nat.reduceAdd, Nat.reduceSub, e1]
    show R.ok (D.tup ((((os.drop i).take (j + 1 - i)).map D.int).reverse)) [] = _
    rw [List.map_reverse]
  have eC : cLc (iOf (cRev (cSl (cVar 0) (oSome (cVar 1)) (oSome (cOp dAdd (cVar 2) (cC (.int 1))))))) (gNm 3) cYes (cCallP 1 F_bits_of (aCons (cVar 3) aNil)) [3] [some (.tup (os.map .int)), some (.int i), some (.int j), none] [] = .ok (.lst (((((os.drop i).take (j + 1 - i)).reverse).map fun x => (⟨(bits7 x).toArray⟩ : Str)).map .str)) [] := by
    unfold cLc iOf
    rw [eS]
    show compL [] (gNm 3) cYes _ [some (.tup (os.map .int)), some (.int i), some (.int j), none] ((((os.drop i).take (j + 1 - i)).reverse).map D.int) [] [] = _
    rw [cl_map (y := fun x => D.str ⟨(bits7 x).toArray⟩) D.int (fun x => ⟨[some (.tup (os.map .int)), some (.int i), some (.int j), some (.int x)], rfl, callP_gen (ds := [.int x]) rfl rfl rfl bits_run rfl⟩)]
    rw [List.map_map]; rfl
  have hj := join_run (ys := (((os.drop i).take (j + 1 - i)).reverse).map fun x => (⟨(bits7 x).toArray⟩ : Str)) (l := bitsL ((os.drop i).take (j + 1 - i))) (by
      unfold bitsL
      rw [List.map_map]; rfl) (bitsL_bin _) (by
      have hs := sum_const (fun x : Int => Str.length ⟨(bits7 x).toArray⟩) 7 (((os.drop i).take (j + 1 - i)).reverse) (fun x _ => rfl)
      rw [List.map_map]
      refine Nat.le_trans (Nat.le_of_eq hs) ?_
      rw [List.length_reverse, List.length_take, List.length_drop]
      omega) (ah := [])
  unfold cStr1
  simp only [ap_var, ap_c, ap_op, ap_nil, ap_cons, ap_bi, ap_seq, ap_if, ap_asg, ap_nm, ap_ret, ap_next, ap_drop, ap_sl, ap_oN, ap_oS, ap_setIx, ap_augIx, ap_lst, R.bind_ok, R.bind_exc, R.bind_stuck, R.out_ok, R.out_exc, R.out_stuck, Out.seq_nx, Out.seq_rt, onBO_true, onBO_false, onB_true, onB_false, endF_rt, endF_nx, dEq_ii, dNe_ii, dLt_ii, dGt_ii, dLe_ii, dGe_ii, dAdd_ii, bInt_i, List.getElem?_cons_zero, List.getElem?_cons_succ, List.set_cons_zero, List.set_cons_succ, List.map_cons, List.map_nil, List.length_cons, List.length_nil, List.replicate, List.cons_append, List.nil_append, Nat.reduceAdd, Nat.reduceSub, eC, hj]
/-- the program's answer -/
def rdR (i k : Int) (xs : List Int) : R D := if sp xs = xs.length then .exc ⟨"BadBytes", [("fault", .str (Str.ofString "integer")), ("index", .int i)]⟩ [] else if i < k ∧ xs.getD (sp xs) 0 = 0 then .exc ⟨"BadBytes", [("fault", .str (Str.ofString "integer")), ("index", .int i)]⟩ [] else .ok (.tup [.int (hz (xs.take (sp xs + 1))), .int (k + 1)]) []
noncomputable def tBd : SE := (cOr (cOp dEq (cVar 2) (cBi bLen (aCons (cVar 0) aNil))) (cOr (cOp dGe (cOp dSub (cVar 2) (cVar 1)) (cC (.int 200))) (cAnd (cOp dEq (cOp dIx (cVar 0) (cVar 2)) (cC (.int 0))) (cOp dGt (cVar 2) (cVar 1)))))
noncomputable def rBd : SS := sRaise "BadBytes" ["index", "fault"] (aCons (cVar 1) (aCons (cC (.str (Str.ofString "integer"))) aNil))
theorem rBd_run {o k r : Option D} {i : Int} : rBd [o, some (.int i), k, r] [] = .ex ⟨"BadBytes", [("fault", .str (Str.ofString "integer")), ("index", .int i)]⟩ [o, some (.int i), k, r] [] := rfl
theorem dSub_ii {a b : Int} {ah : List AO} : dSub (.int a) (.int b) ah = .ok (.int (a - b)) ah := dInt_ii rfl
theorem len_run {os : List Int} : bLen [.tup (os.map .int)] [] = .ok (.int (os.length : Nat)) [] := by
  show R.ok (D.int ((os.map D.int).length : Nat)) [] = _
  rw [List.length_map]
theorem sp_le : ∀ xs : List Int, sp xs ≤ xs.length
  | [] => Nat.le_refl _
  | x :: xs => by
    rw [sp]
    split
    · have := sp_le xs; rw [List.length_cons]; omega
    · exact Nat.zero_le _
theorem read_end {os : List Int} {i n : Nat} (hi : i ≤ os.length) (hlt : i + n < os.length) (hl : os.length ≤ 90) : endF (sRet (cTup (aCons (cBi bInt2 (aCons (cStr1 dJoin (cC (.str (Str.ofString ""))) (cLc (iOf (cRev (cSl (cVar 0) (oSome (cVar 1)) (oSome (cOp dAdd (cVar 2) (cC (.int 1))))))) (gNm 3) cYes (cCallP 1 F_bits_of (aCons (cVar 3) aNil)) [3])) (aCons (cC (.int 2)) aNil))) (aCons (cOp dAdd (cVar 2) (cC (.int 1))) aNil))) [some (.tup (os.map .int)), some (.int i), some (.int ((i + n : Nat) : Int)), none] []) = .ok (.tup [.int (hz ((os.drop i).take (n + 1))), .int (((i + n : Nat) : Int) + 1)]) [] := by
  have eT := text_run (os := os) (i := i) (j := i + n) (ρ3 := none) (y := .non) hi (by omega) (by omega)
  have en : i + n + 1 - i = n + 1 := by omega
  rw [en] at eT
  have hlen : ((os.drop i).take (n + 1)).length = n + 1 := by
    rw [List.length_take, List.length_drop]; omega
  have z2 : 2 ≤ sizeLine := by decide
  have eB : bInt2 [.str ⟨(bitsL ((os.drop i).take (n + 1))).toArray⟩, .int 2] [] = .ok (.int (hz ((os.drop i).take (n + 1)))) [] := by
    have hb := bitsL_len ((os.drop i).take (n + 1))
    have hc : (2 : Int) = 2 ∧ (⟨(bitsL ((os.drop i).take (n + 1))).toArray⟩ : Str).cps.toList ≠ [] ∧ (⟨(bitsL ((os.drop i).take (n + 1))).toArray⟩ : Str).length ≤ 640 ∧ (∀ c ∈ (⟨(bitsL ((os.drop i).take (n + 1))).toArray⟩ : Str).cps.toList, Bn.IsBin c) := by
      refine ⟨rfl, ?_, ?_, bitsL_bin _⟩
      · intro q
        have : bitsL ((os.drop i).take (n + 1)) = [] := q
        rw [this, hlen] at hb
        simp at hb
      · show (bitsL ((os.drop i).take (n + 1))).toArray.size ≤ 640
        rw [List.size_toArray, hb, hlen]
        omega
    unfold bInt2
    show (if (2 : Int) = 2 ∧ _ then _ else _) = _
    rw [if_pos hc, ← bin_hz]
  unfold cTup
  simp only [ap_var, ap_c, ap_op, ap_nil, ap_cons, ap_bi, ap_seq, ap_if, ap_asg, ap_nm, ap_ret, ap_next, ap_drop, ap_sl, ap_oN, ap_oS, ap_setIx, ap_augIx, ap_lst, R.bind_ok, R.bind_exc, R.bind_stuck, R.out_ok, R.out_exc, R.out_stuck, Out.seq_nx, Out.seq_rt, onBO_true, onBO_false, onB_true, onB_false, endF_rt, endF_nx, dEq_ii, dNe_ii, dLt_ii, dGt_ii, dLe_ii, dGe_ii, dAdd_ii, bInt_i, List.getElem?_cons_zero, List.getElem?_cons_succ, List.set_cons_zero, List.set_cons_succ, List.map_cons, List.map_nil, List.length_cons, List.length_nil, List.replicate, List.cons_append, List.nil_append, Nat.reduceAdd, Nat.reduceSub, eT, eB, if_pos z2]
theorem read_run {os : List Int} {i : Nat} (hi : i ≤ os.length) (hl : os.length ≤ 90) : F_read_integer [.tup (os.map .int), .int i] [] = rdR i (i + sp (os.drop i) : Nat) (os.drop i) := by
  have eW := rd_loop (i := some (.int i)) (r := none) (os.drop i) (os.take i)
  rw [List.take_append_drop, List.length_take, Nat.min_eq_left hi] at eW
  have hsp := sp_le (os.drop i)
  rw [List.length_drop] at hsp
  generalize hn : sp (os.drop i) = n at eW hsp
  have e0 : sAsg (cVar 1) (gNm 2) [some (.tup (os.map .int)), some (.int i), none, none] [] = .nx [some (.tup (os.map .int)), some (.int i), some (.int i), none] [] := rfl
  show endF (sSeq (sAsg (cVar 1) (gNm 2)) (sSeq (sWhile tRd bRd) (sSeq (sIf tBd rBd sNext) (sRet (cTup (aCons (cBi bInt2 (aCons (cStr1 dJoin (cC (.str (Str.ofString ""))) (cLc (iOf (cRev (cSl (cVar 0) (oSome (cVar 1)) (oSome (cOp dAdd (cVar 2) (cC (.int 1))))))) (gNm 3) cYes (cCallP 1 F_bits_of (aCons (cVar 3) aNil)) [3])) (aCons (cC (.int 2)) aNil))) (aCons (cOp dAdd (cVar 2) (cC (.int 1))) aNil)))))) [some (.tup (os.map .int)), some (.int i), none, none] []) = _
  rw [ap_seq, e0, Out.seq_nx, ap_seq, eW, Out.seq_nx, ap_seq, ap_if]
  unfold rdR
  rw [hn, List.length_drop]
  by_cases h1 : n = os.length - i
  · have d1 : (((i + n : Nat) : Int) == (os.length : Nat)) = true := by simp; omega
    have eT : tBd [some (.tup (os.map .int)), some (.int i), some (.int ((i + n : Nat) : Int)), none] [] = .ok (.bl true) [] := by
      unfold tBd
      simp only [ap_var, ap_c, ap_op, ap_nil, ap_cons, ap_bi, ap_seq, ap_if, ap_asg, ap_nm, ap_ret, ap_next, ap_drop, ap_sl, ap_oN, ap_oS, ap_setIx, ap_augIx, ap_lst, R.bind_ok, R.bind_exc, R.bind_stuck, R.out_ok, R.out_exc, R.out_stuck, Out.seq_nx, Out.seq_rt, onBO_true, onBO_false, onB_true, onB_false, endF_rt, endF_nx, dEq_ii, dNe_ii, dLt_ii, dGt_ii, dLe_ii, dGe_ii, dAdd_ii, bInt_i, List.getElem?_cons_zero, List.getElem?_cons_succ, List.set_cons_zero, List.set_cons_succ, List.map_cons, List.map_nil, List.length_cons, List.length_nil, List.replicate, List.cons_append, List.nil_append, Nat.reduceAdd, Nat.reduceSub, ap_or, len_run, d1]
    rw [eT, if_pos h1, R.out_ok, onBO_true, rBd_run]
    rfl
  · have d1 : (((i + n : Nat) : Int) == (os.length : Nat)) = false := by simp; omega
    have d2 : decide (((i + n : Nat) : Int) - (i : Nat) < 200) = true := by simp; omega
    have hlt : i + n < os.length := by omega
    have eX : (os.drop i).getD n 0 = os[i + n] := by
      rw [List.getD_eq_getElem?_getD, List.getElem?_drop, List.getElem?_eq_getElem hlt]; rfl
    have eI : dIx (.tup (os.map .int)) (.int ((i + n : Nat) : Int)) [] = .ok (.int os[i + n]) [] := by
      have := dIx_app (pre := os.take (i + n)) (x := os[i + n]) (xs := os.drop (i + n + 1)) (k := ((i + n : Nat) : Int)) (ah := []) (by rw [List.length_take, Nat.min_eq_left (by omega)])
      rw [← List.drop_eq_getElem_cons hlt, List.take_append_drop] at this
      exact this
    rw [if_neg h1, eX]
    by_cases h2 : os[i + n] = 0
    · have d3 : (os[i + n] == 0) = true := by simp [h2]
      by_cases h3 : (i : Int) < ((i + n : Nat) : Int)
      · have d4 : decide ((i : Int) < ((i + n : Nat) : Int)) = true := decide_eq_true h3
        have eT : tBd [some (.tup (os.map .int)), some (.int i), some (.int ((i + n : Nat) : Int)), none] [] = .ok (.bl true) [] := by
          unfold tBd
          simp only [ap_var, ap_c, ap_op, ap_nil, ap_cons, ap_bi, ap_seq, ap_if, ap_asg, ap_nm, ap_ret, ap_next, ap_drop, ap_sl, ap_oN, ap_oS, ap_setIx, ap_augIx, ap_lst, R.bind_ok, R.bind_exc, R.bind_stuck, R.out_ok, R.out_exc, R.out_stuck, Out.seq_nx, Out.seq_rt, onBO_true, onBO_false, onB_true, onB_false, endF_rt, endF_nx, dEq_ii, dNe_ii, dLt_ii, dGt_ii, dLe_ii, dGe_ii, dAdd_ii, bInt_i, List.getElem?_cons_zero, List.getElem?_cons_succ, List.set_cons_zero, List.set_cons_succ, List.map_cons, List.map_nil, List.length_cons, List.length_nil, List.replicate, List.cons_append, List.nil_append, Nat.reduceAdd, Nat.reduceSub, ap_or, ap_and, len_run, d1, d2, d3, d4, dSub_ii, eI, Bool.not_true]
        rw [eT, if_pos ⟨h3, h2⟩, R.out_ok, onBO_true, rBd_run]
        rfl
      · have d4 : decide ((i : Int) < ((i + n : Nat) : Int)) = false := decide_eq_false h3
        have eT : tBd [some (.tup (os.map .int)), some (.int i), some (.int ((i + n : Nat) : Int)), none] [] = .ok (.bl false) [] := by
          unfold tBd
          simp only [ap_var, ap_c, ap_op, ap_nil, ap_cons, ap_bi, ap_seq, ap_if, ap_asg, ap_nm, ap_ret, ap_next, ap_drop, ap_sl, ap_oN, ap_oS, ap_setIx, ap_augIx, ap_lst, R.bind_ok, R.bind_exc, R.bind_stuck, R.out_ok, R.out_exc, R.out_stuck, Out.seq_nx, Out.seq_rt, onBO_true, onBO_false, onB_true, onB_false, endF_rt, endF_nx, dEq_ii, dNe_ii, dLt_ii, dGt_ii, dLe_ii, dGe_ii, dAdd_ii, bInt_i, List.getElem?_cons_zero, List.getElem?_cons_succ, List.set_cons_zero, List.set_cons_succ, List.map_cons, List.map_nil, List.length_cons, List.length_nil, List.replicate, List.cons_append, List.nil_append, Nat.reduceAdd, Nat.reduceSub, ap_or, ap_and, len_run, d1, d2, d3, d4, dSub_ii, eI, Bool.not_true]
        rw [eT, if_neg (fun q => h3 q.1), R.out_ok, onBO_false, ap_next, Out.seq_nx]
        exact read_end hi hlt hl
    · have d3 : (os[i + n] == 0) = false := by simp [h2]
      have eT : tBd [some (.tup (os.map .int)), some (.int i), some (.int ((i + n : Nat) : Int)), none] [] = .ok (.bl false) [] := by
        unfold tBd
        simp only [ap_var, ap_c, ap_op, ap_nil, ap_cons, ap_bi, ap_seq, ap_if, ap_asg, ap_nm, ap_ret, ap_next, ap_drop, ap_sl, ap_oN, ap_oS, ap_setIx, ap_augIx, ap_lst, R.bind_ok, R.bind_exc, R.bind_stuck, R.out_ok, R.out_exc, R.out_stuck, Out.seq_nx, Out.seq_rt, onBO_true, onBO_false, onB_true, onB_false, endF_rt, endF_nx, dEq_ii, dNe_ii, dLt_ii, dGt_ii, dLe_ii, dGe_ii, dAdd_ii, bInt_i, List.getElem?_cons_zero, List.getElem?_cons_succ, List.set_cons_zero, List.set_cons_succ, List.map_cons, List.map_nil, List.length_cons, List.length_nil, List.replicate, List.cons_append, List.nil_append, Nat.reduceAdd, Nat.reduceSub, ap_or, ap_and, len_run, d1, d2, d3, dSub_ii, eI, Bool.not_true]
      rw [eT, if_neg (fun q => h2 q.2), R.out_ok, onBO_false, ap_next, Out.seq_nx]
      exact read_end hi hlt hl
def isSl (xs : List Int) : Bool := decide (4 ≤ xs.length) && decide (sld (xs.take (xs.length - 4)) = xs)
theorem chk_app (c : Int) : ∀ (xs ys : List Int), chk c (xs ++ ys) = chk (chk c xs) ys := by
  intro xs
  induction xs generalizing c with
  | nil => intro ys; rfl
  | cons x xs ih => intro ys; exact ih _ ys
theorem tl4_inj {c d : Int} (h : tl4 c = tl4 d) : c = d := by
  unfold tl4 at h
  simp only [List.cons.injEq, and_true] at h
  omega
theorem chk_inj : ∀ (B : List Int) (u v : Int), 0 ≤ u → u < 4294967291 → 0 ≤ v → v < 4294967291 → chk u B = chk v B → u = v := by
  intro B
  induction B with
  | nil => intro u v _ _ _ _ h; exact h
  | cons x B ih =>
    intro u v h0 h1 h2 h3 h
    have e := ih ((u * 257 + x + 1) % 4294967291) ((v * 257 + x + 1) % 4294967291) (by omega) (by omega) (by omega) (by omega) h
    omega
theorem modd {X Y e : Int} (h : X = Y + e) (h0 : -4294967291 < e) (h1 : e < 4294967291) : X % 4294967291 - Y % 4294967291 = e ∨ X % 4294967291 - Y % 4294967291 = e + 4294967291 ∨ X % 4294967291 - Y % 4294967291 = e - 4294967291 := by omega
theorem modz {X Y e : Int} (h : X = Y + e) (h0 : -4294967291 < e) (h1 : e < 4294967291) (hq : X % 4294967291 = Y % 4294967291) : e = 0 := by
  rcases modd h h0 h1 with q | q | q <;> omega
/-- the same low bits -/
theorem modl {X Y e M : Int} (hM : M = 65536 ∨ M = 16777216) (h : X = Y + e) (h0 : -65800 < e) (h1 : e < 65800) (h2 : M = 65536 → -256 < e ∧ e < 256) (hq : X % 4294967291 % M = Y % 4294967291 % M) : e = 0 := by
  have hm := modd h (by omega) (by omega)
  have b1 : 0 ≤ X % 4294967291 ∧ X % 4294967291 < 4294967291 := by omega
  have b2 : 0 ≤ Y % 4294967291 ∧ Y % 4294967291 < 4294967291 := by omega
  generalize X % 4294967291 = u at hq hm b1
  generalize Y % 4294967291 = v at hq hm b2
  clear h
  rcases hM with rfl | rfl
  · have h3 := h2 rfl
    rcases hm with hm | hm | hm <;> omega
  · rcases hm with hm | hm | hm <;> omega
theorem b2 {x y : Int} (h : 257 * x + y = 0) (h0 : -256 < y) (h1 : y < 256) : x = 0 ∧ y = 0 := by omega
theorem b3 {x y z : Int} (h : 257 * (257 * x + y) + z = 0) (h0 : -256 < y) (h1 : y < 256) (g0 : -256 < z) (g1 : z < 256) : x = 0 ∧ y = 0 ∧ z = 0 := by
  have q := b2 h g0 g1
  have r := b2 q.1 h0 h1
  exact ⟨r.1, r.2, q.2⟩
theorem win1 {a w v : Int} (h0 : 0 ≤ w) (h1 : w < 256) (h2 : 0 ≤ v) (h3 : v < 256) (h : chk a [w] = chk a [v]) : w = v := by
  simp only [chk] at h
  have := modz (X := a * 257 + w + 1) (Y := a * 257 + v + 1) (e := w - v) (by omega) (by omega) (by omega) h
  omega
theorem mod_in (x y : Int) : (x % 4294967291 * 257 + y + 1) % 4294967291 = (x * 257 + y + 1) % 4294967291 := by omega
theorem win2 {a w0 w1 v0 v1 : Int} (h0 : 0 ≤ w0 ∧ w0 < 256) (h1 : 0 ≤ w1 ∧ w1 < 256) (h2 : 0 ≤ v0 ∧ v0 < 256) (h3 : 0 ≤ v1 ∧ v1 < 256) (h : chk a [w0, w1] = chk a [v0, v1]) : w0 = v0 ∧ w1 = v1 := by
  simp only [chk, mod_in] at h
  have := b2 (modz (X := (a * 257 + w0 + 1) * 257 + w1 + 1) (Y := (a * 257 + v0 + 1) * 257 + v1 + 1) (e := 257 * (w0 - v0) + (w1 - v1)) (by omega) (by omega) (by omega) h) (by omega) (by omega)
  omega
theorem win3 {a w0 w1 w2 v0 v1 v2 : Int} (h0 : 0 ≤ w0 ∧ w0 < 256) (h1 : 0 ≤ w1 ∧ w1 < 256) (h2 : 0 ≤ w2 ∧ w2 < 256) (g0 : 0 ≤ v0 ∧ v0 < 256) (g1 : 0 ≤ v1 ∧ v1 < 256) (g2 : 0 ≤ v2 ∧ v2 < 256) (h : chk a [w0, w1, w2] = chk a [v0, v1, v2]) : w0 = v0 ∧ w1 = v1 ∧ w2 = v2 := by
  simp only [chk, mod_in] at h
  have := b3 (modz (X := ((a * 257 + w0 + 1) * 257 + w1 + 1) * 257 + w2 + 1) (Y := ((a * 257 + v0 + 1) * 257 + v1 + 1) * 257 + v2 + 1) (e := 257 * (257 * (w0 - v0) + (w1 - v1)) + (w2 - v2)) (by omega) (by omega) (by omega) h) (by omega) (by omega) (by omega) (by omega)
  omega
def Byt (xs : List Int) : Prop := ∀ x ∈ xs, 0 ≤ x ∧ x < 256
theorem win {a : Int} {W V : List Int} (hl : W.length = V.length) (h3 : W.length ≤ 3) (hW : Byt W) (hV : Byt V) (h : chk a W = chk a V) : W = V := by
  match W, V, hl with
  | [], [], _ => rfl
  | [w], [v], _ => rw [win1 (hW w (by simp)).1 (hW w (by simp)).2 (hV v (by simp)).1 (hV v (by simp)).2 h]
  | [w0, w1], [v0, v1], _ =>
    obtain ⟨e0, e1⟩ := win2 (hW w0 (by simp)) (hW w1 (by simp)) (hV v0 (by simp)) (hV v1 (by simp)) h
    rw [e0, e1]
  | [w0, w1, w2], [v0, v1, v2], _ =>
    obtain ⟨e0, e1, e2⟩ := win3 (hW w0 (by simp)) (hW w1 (by simp)) (hW w2 (by simp)) (hV v0 (by simp)) (hV v1 (by simp)) (hV v2 (by simp)) h
    rw [e0, e1, e2]
  | _ :: _ :: _ :: _ :: _, _, _ => simp at h3
theorem last1 {a w v : Int} (h0 : 0 ≤ w ∧ w < 256) (h2 : 0 ≤ v ∧ v < 256) (h : chk a [w] % 65536 = chk a [v] % 65536) : w = v := by
  simp only [chk] at h
  have := modl (X := a * 257 + w + 1) (Y := a * 257 + v + 1) (e := w - v) (Or.inl rfl) (by omega) (by omega) (by omega) (fun _ => by omega) h
  omega
theorem last2 {a w0 w1 v0 v1 : Int} (h0 : 0 ≤ w0 ∧ w0 < 256) (h1 : 0 ≤ w1 ∧ w1 < 256) (h2 : 0 ≤ v0 ∧ v0 < 256) (h3 : 0 ≤ v1 ∧ v1 < 256) (h : chk a [w0, w1] % 16777216 = chk a [v0, v1] % 16777216) : w0 = v0 ∧ w1 = v1 := by
  simp only [chk, mod_in] at h
  have := b2 (modl (X := (a * 257 + w0 + 1) * 257 + w1 + 1) (Y := (a * 257 + v0 + 1) * 257 + v1 + 1) (e := 257 * (w0 - v0) + (w1 - v1)) (Or.inr rfl) (by omega) (by omega) (by omega) (fun q => by omega) h) (by omega) (by omega)
  omega
theorem tl4_len (c : Int) : (tl4 c).length = 4 := rfl
theorem tl4_byt {c : Int} (h0 : 0 ≤ c) (h1 : c < 4294967296) : Byt (tl4 c) := by
  intro x hx
  simp only [tl4, List.mem_cons, List.not_mem_nil, or_false] at hx
  rcases hx with rfl | rfl | rfl | rfl <;> omega
theorem low2 {c d : Int} (h : (tl4 c).drop 2 = (tl4 d).drop 2) : c % 65536 = d % 65536 := by
  simp only [tl4, List.drop_succ_cons, List.drop_zero, List.cons.injEq, and_true] at h
  omega
theorem low3 {c d : Int} (h : (tl4 c).drop 1 = (tl4 d).drop 1) : c % 16777216 = d % 16777216 := by
  simp only [tl4, List.drop_succ_cons, List.drop_zero, List.cons.injEq, and_true] at h
  omega
/-- the last ones of what is checked, and the first ones of the check -/
theorem edge {a : Int} {W V : List Int} {l : Nat} (hl : W.length = V.length) (h1 : 1 ≤ W.length) (hs : W.length + l ≤ 3) (h2 : 1 ≤ l) (hW : Byt W) (hV : Byt V) (h : (tl4 (chk a W)).drop l = (tl4 (chk a V)).drop l) : W = V := by
  have hl2 : l = 1 ∨ l = 2 := by omega
  match W, V, hl with
  | [], [], _ => rfl
  | [w], [v], _ =>
    have : (tl4 (chk a [w])).drop 2 = (tl4 (chk a [v])).drop 2 := by
      rcases hl2 with rfl | rfl
      · have := congrArg (List.drop 1) h
        rw [List.drop_drop, List.drop_drop] at this
        exact this
      · exact h
    rw [last1 (hW w (by simp)) (hV v (by simp)) (low2 this)]
  | [w0, w1], [v0, v1], _ =>
    have : l = 1 := by simp at hs; omega
    subst this
    obtain ⟨e0, e1⟩ := last2 (hW w0 (by simp)) (hW w1 (by simp)) (hV v0 (by simp)) (hV v1 (by simp)) (low3 h)
    rw [e0, e1]
  | _ :: _ :: _ :: _, _, _ => simp at hs; omega
def spo (xs mid : List Int) (a : Nat) : List Int := xs.take a ++ mid ++ xs.drop (a + mid.length)
theorem sld_len (os : List Int) : (sld os).length = os.length + 4 := by
  unfold sld
  rw [List.length_append, tl4_len]
theorem isSl_sld (os : List Int) : isSl (sld os) = true := by
  have e : (sld os).take ((sld os).length - 4) = os := by
    rw [sld_len, Nat.add_sub_cancel]
    unfold sld
    rw [List.take_left]
  unfold isSl
  rw [e, sld_len]
  simp
theorem Byt.app {xs ys : List Int} (h1 : Byt xs) (h2 : Byt ys) : Byt (xs ++ ys) := fun x hx => by
  rcases List.mem_append.mp hx with q | q
  · exact h1 x q
  · exact h2 x q
theorem Byt.take {xs : List Int} (h : Byt xs) (n : Nat) : Byt (xs.take n) := fun x hx => h x (List.mem_of_mem_take hx)
theorem Byt.drop {xs : List Int} (h : Byt xs) (n : Nat) : Byt (xs.drop n) := fun x hx => h x (List.mem_of_mem_drop hx)
theorem sld_byt {os : List Int} (h : Byt os) : Byt (sld os) := by
  have hb := chk_bound os 1 (by decide) (by decide)
  exact h.app (tl4_byt hb.1 (by omega))
theorem take_at {xs ys : List Int} {n : Nat} (h : xs.length = n) : (xs ++ ys).take n = xs := by
  subst h
  exact List.take_left
theorem spoilt_met {os mid : List Int} {a : Nat} (ho : Byt os) (hm : Byt mid) (h3 : mid.length ≤ 3) (h1 : 1 ≤ mid.length) (ha : a + mid.length ≤ (sld os).length) (h : isSl (spo (sld os) mid a) = true) : spo (sld os) mid a = sld os := by
  rw [sld_len] at ha
  have hlen : (spo (sld os) mid a).length = os.length + 4 := by
    unfold spo
    rw [List.length_append, List.length_append, List.length_take, List.length_drop, sld_len]
    omega
  unfold isSl at h
  simp only [Bool.and_eq_true, decide_eq_true_eq] at h
  have h2 := h.2
  rw [hlen, Nat.add_sub_cancel] at h2
  by_cases c1 : a + mid.length ≤ os.length
  · -- all of it inside
    have e : spo (sld os) mid a = (os.take a ++ mid ++ os.drop (a + mid.length)) ++ tl4 (chk 1 os) := by
      unfold spo sld
      rw [List.take_append_of_le_length (by omega), List.drop_append_of_le_length c1]
      simp only [List.append_assoc]
    have el : (os.take a ++ mid ++ os.drop (a + mid.length)).length = os.length := by
      rw [List.length_append, List.length_append, List.length_take, List.length_drop]; omega
    have et : (spo (sld os) mid a).take os.length = os.take a ++ mid ++ os.drop (a + mid.length) := by
      rw [e, ← el, List.take_left]
    rw [et, e] at h2
    have h4 : tl4 (chk 1 (os.take a ++ mid ++ os.drop (a + mid.length))) = tl4 (chk 1 os) := List.append_cancel_left h2
    have h5 := tl4_inj h4
    have eo : os = os.take a ++ (os.drop a).take mid.length ++ os.drop (a + mid.length) := by
      rw [List.append_assoc, ← List.drop_drop, List.take_append_drop, List.take_append_drop]
    have b1 := chk_bound (os.take a) 1 (by decide) (by decide)
    have b2 := chk_bound mid (chk 1 (os.take a)) b1.1 b1.2
    have b3 := chk_bound ((os.drop a).take mid.length) (chk 1 (os.take a)) b1.1 b1.2
    have h6 : chk (chk 1 (os.take a ++ mid)) (os.drop (a + mid.length)) = chk (chk 1 (os.take a ++ (os.drop a).take mid.length)) (os.drop (a + mid.length)) := by
      rw [← chk_app, ← chk_app, ← eo]; exact h5
    rw [chk_app, chk_app 1 (os.take a)] at h6
    have h7 := chk_inj _ _ _ b2.1 b2.2 b3.1 b3.2 h6
    have h8 : mid = (os.drop a).take mid.length := win (by rw [List.length_take, List.length_drop]; omega) h3 hm ((ho.drop a).take _) h7
    rw [e]
    unfold sld
    congr 1
    rw [← h8] at eo
    exact eo.symm
  · by_cases c2 : os.length ≤ a
    · -- all of it in the check
      have et : (spo (sld os) mid a).take os.length = os := by
        unfold spo sld
        rw [List.append_assoc, List.take_append_of_le_length (by rw [List.length_take, List.length_append, tl4_len]; omega), List.take_take, Nat.min_eq_left c2, List.take_left]
      rw [et] at h2
      exact h2.symm
    · -- across
      have e : spo (sld os) mid a = (os.take a ++ mid.take (os.length - a)) ++ (mid.drop (os.length - a) ++ (tl4 (chk 1 os)).drop (a + mid.length - os.length)) := by
        unfold spo sld
        rw [List.take_append_of_le_length (by omega), List.drop_append, List.drop_eq_nil_of_le (by omega : os.length ≤ a + mid.length), List.nil_append, List.append_assoc, List.append_assoc]
        rw [← List.append_assoc (mid.take _), List.take_append_drop]
      have el : (os.take a ++ mid.take (os.length - a)).length = os.length := by
        rw [List.length_append, List.length_take, List.length_take]; omega
      have et : (spo (sld os) mid a).take os.length = os.take a ++ mid.take (os.length - a) := by
        rw [e]
        exact take_at el
      rw [et, e] at h2
      have h4 : tl4 (chk 1 (os.take a ++ mid.take (os.length - a))) = mid.drop (os.length - a) ++ (tl4 (chk 1 os)).drop (a + mid.length - os.length) := List.append_cancel_left h2
      have hd : (mid.drop (os.length - a)).length = a + mid.length - os.length := by rw [List.length_drop]; omega
      have h5 := congrArg (List.drop (a + mid.length - os.length)) h4
      rw [← hd, List.drop_left] at h5
      have eo : os = os.take a ++ os.drop a := (List.take_append_drop _ _).symm
      have h6 : (tl4 (chk (chk 1 (os.take a)) (mid.take (os.length - a)))).drop (mid.drop (os.length - a)).length = (tl4 (chk (chk 1 (os.take a)) (os.drop a))).drop (mid.drop (os.length - a)).length := by
        rw [← chk_app, ← chk_app, ← eo]
        exact h5
      have h7 : mid.take (os.length - a) = os.drop a := edge (by rw [List.length_take, List.length_drop]; omega) (by rw [List.length_take]; omega) (by rw [List.length_take, hd]; omega) (by rw [hd]; omega) (hm.take _) (ho.drop _) h6
      rw [e, ← h2, h7, ← eo]
theorem dgI_len : ∀ (k n : Nat), n < 128 ^ (k + 1) → (dgI n).length ≤ k := by
  intro k
  induction k with
  | zero => intro n h; rw [dgI_small (by omega)]; exact Nat.le_refl _
  | succ k ih =>
    intro n h
    by_cases hb : 127 < n
    · rw [dgI_big hb, List.length_cons]
      have : n / 128 < 128 ^ (k + 1) := by
        rw [Nat.pow_succ] at h
        omega
      have := ih _ this
      omega
    · rw [dgI_small hb]; exact Nat.zero_le _
theorem dgs_big {n : Nat} (h : 127 < n) : dgs n = ((128 + n % 128 : Nat) : Int) :: dgs (n / 128) := by
  unfold dgs
  rw [dgI_big h, dgL_big h]; rfl
theorem dgs_small {n : Nat} (h : ¬ 127 < n) : dgs n = [(n : Int)] := by
  unfold dgs
  rw [dgI_small h, dgL_small h]; rfl
theorem dgs_len (n : Nat) : (dgs n).length = (dgI n).length + 1 := by
  unfold dgs
  rw [List.length_append]; rfl
theorem dgs_byt (n : Nat) : Byt (dgs n) := by
  induction n using Nat.strongRecOn with
  | ind n ih =>
    by_cases h : 127 < n
    · rw [dgs_big h]
      intro x hx
      rcases List.mem_cons.mp hx with rfl | q
      · omega
      · exact ih (n / 128) (by omega) x q
    · rw [dgs_small h]
      intro x hx
      simp only [List.mem_singleton] at hx
      omega
theorem rd_dgs {i : Int} {rest : List Int} : ∀ (n : Nat) (k v m : Int), (i < k → n ≠ 0) → rd i k v m (dgs n ++ rest) = .tup [.int (v + m * n), .int (k + (dgs n).length)] := by
  intro n
  induction n using Nat.strongRecOn with
  | ind n ih =>
    intro k v m hk
    by_cases h : 127 < n
    · rw [dgs_big h, List.cons_append, rd, if_pos (by omega), ih (n / 128) (by omega) _ _ _ (fun _ => by omega), List.length_cons]
      have q1 : ((128 + n % 128 : Nat) : Int) % 128 = ((n % 128 : Nat) : Int) := by omega
      have q2 : (n : Int) = ((n % 128 : Nat) : Int) + 128 * ((n / 128 : Nat) : Int) := by omega
      rw [q1]
      have q3 : v + m * ((n % 128 : Nat) : Int) + m * 128 * ((n / 128 : Nat) : Int) = v + m * (n : Int) := by
        conv => rhs; rw [q2, Int.mul_add, ← Int.mul_assoc]
        omega
      have q4 : k + 1 + (((dgs (n / 128)).length : Nat) : Int) = k + (((dgs (n / 128)).length + 1 : Nat) : Int) := by omega
      rw [q3, q4]
    · rw [dgs_small h, List.cons_append, rd, if_neg (by omega), if_neg (fun q => hk q.1 (by omega))]
      rfl
theorem rd_dgI {i : Int} : ∀ (n : Nat) (k v m : Int), rd i k v m (dgI n) = badD i := by
  intro n
  induction n using Nat.strongRecOn with
  | ind n ih =>
    intro k v m
    by_cases h : 127 < n
    · rw [dgI_big h, rd, if_pos (by omega)]
      exact ih (n / 128) (by omega) _ _ _
    · rw [dgI_small h]; rfl
theorem is_sealed_run {xs : List Int} (hl : xs.length ≤ 1000) : F_is_sealed [.tup (xs.map .int)] [] = .ok (.bl (isSl xs)) [] := by
  have z : 1004 ≤ sizeLine := by rw [sizeLine_eq]; decide
  show endF (sRet (cAnd (cOp dGe (cBi bLen (aCons (cVar 0) aNil)) (cC (.int 4))) (cOp dEq (cCallP 1 F_sealed (aCons (cSl (cVar 0) oNone (oSome (cOp dSub (cBi bLen (aCons (cVar 0) aNil)) (cC (.int 4))))) aNil)) (cBi bTuple (aCons (cVar 0) aNil)))) [some (.tup (xs.map .int))] []) = _
  by_cases h : 4 ≤ xs.length
  · have d1 : decide (((xs.length : Nat) : Int) < 4) = false := by simp; omega
    have e1 : dSl (.tup (xs.map .int)) none (some ((xs.length : Nat) - 4 : Int)) [] = .ok (.tup ((xs.take (xs.length - 4)).map .int)) [] := by
      show R.ok (D.tup (cut (xs.map D.int) none (some ((xs.length : Nat) - 4 : Int)))) [] = _
      have : ((xs.length : Nat) - 4 : Int) = ((xs.length - 4 : Nat) : Int) := by omega
      rw [this, cut_to, List.map_take]
    have e2 : cCallP 1 F_sealed (aCons (cSl (cVar 0) oNone (oSome (cOp dSub (cBi bLen (aCons (cVar 0) aNil)) (cC (.int 4))))) aNil) [some (.tup (xs.map .int))] [] = .ok (.tup ((sld (xs.take (xs.length - 4))).map .int)) [] := by
      refine callP_gen (ds := [.tup ((xs.take (xs.length - 4)).map .int)]) ?_ rfl (by simp only [List.all_cons, List.all_nil, calmD, D.nr, nrs_ints, Bool.and_true]) (sealed_run (by rw [List.length_take]; omega)) (by rw [D.nr]; exact nrs_ints _)
      simp only [ap_var, ap_c, ap_op, ap_nil, ap_cons, ap_bi, ap_seq, ap_if, ap_asg, ap_nm, ap_ret, ap_next, ap_drop, ap_sl, ap_oN, ap_oS, ap_setIx, ap_augIx, ap_lst, R.bind_ok, R.bind_exc, R.bind_stuck, R.out_ok, R.out_exc, R.out_stuck, Out.seq_nx, Out.seq_rt, onBO_true, onBO_false, onB_true, onB_false, endF_rt, endF_nx, dEq_ii, dNe_ii, dLt_ii, dGt_ii, dLe_ii, dGe_ii, dAdd_ii, bInt_i, List.getElem?_cons_zero, List.getElem?_cons_succ, List.set_cons_zero, List.set_cons_succ, List.map_cons, List.map_nil, List.length_cons, List.length_nil, List.replicate, List.cons_append, List.nil_append, Nat.reduceAdd, Nat.reduceSub, len_run, subI_ii, e1]
    have e3 : bTuple [.tup (xs.map .int)] [] = .ok (.tup (xs.map .int)) [] := rfl
    have e4 : isSl xs = decide (sld (xs.take (xs.length - 4)) = xs) := by
      unfold isSl
      rw [decide_eq_true h, Bool.true_and]
    rw [e4]
    simp only [ap_var, ap_c, ap_op, ap_nil, ap_cons, ap_bi, ap_seq, ap_if, ap_asg, ap_nm, ap_ret, ap_next, ap_drop, ap_sl, ap_oN, ap_oS, ap_setIx, ap_augIx, ap_lst, R.bind_ok, R.bind_exc, R.bind_stuck, R.out_ok, R.out_exc, R.out_stuck, Out.seq_nx, Out.seq_rt, onBO_true, onBO_false, onB_true, onB_false, endF_rt, endF_nx, dEq_ii, dNe_ii, dLt_ii, dGt_ii, dLe_ii, dGe_ii, dAdd_ii, bInt_i, List.getElem?_cons_zero, List.getElem?_cons_succ, List.set_cons_zero, List.set_cons_succ, List.map_cons, List.map_nil, List.length_cons, List.length_nil, List.replicate, List.cons_append, List.nil_append, Nat.reduceAdd, Nat.reduceSub, ap_and, len_run, d1, Bool.not_false, e2, e3, dEq_tt]
  · have d1 : decide (((xs.length : Nat) : Int) < 4) = true := by simp; omega
    have e4 : isSl xs = false := by
      unfold isSl
      rw [decide_eq_false h, Bool.false_and]
    rw [e4]
    simp only [ap_var, ap_c, ap_op, ap_nil, ap_cons, ap_bi, ap_seq, ap_if, ap_asg, ap_nm, ap_ret, ap_next, ap_drop, ap_sl, ap_oN, ap_oS, ap_setIx, ap_augIx, ap_lst, R.bind_ok, R.bind_exc, R.bind_stuck, R.out_ok, R.out_exc, R.out_stuck, Out.seq_nx, Out.seq_rt, onBO_true, onBO_false, onB_true, onB_false, endF_rt, endF_nx, dEq_ii, dNe_ii, dLt_ii, dGt_ii, dLe_ii, dGe_ii, dAdd_ii, bInt_i, List.getElem?_cons_zero, List.getElem?_cons_succ, List.set_cons_zero, List.set_cons_succ, List.map_cons, List.map_nil, List.length_cons, List.length_nil, List.replicate, List.cons_append, List.nil_append, Nat.reduceAdd, Nat.reduceSub, ap_and, len_run, d1, Bool.not_true]
theorem pow60 {ah : List AO} : dPow (.int 10) (.int 60) ah = .ok (.int (10 ^ 60)) ah := by
  unfold dPow
  rw [dInt_ii (by decide)]
  rfl
theorem min_run {a b : Int} {ah : List AO} : bMin2 [.int a, .int b] ah = .ok (.int (if b < a then b else a)) ah := rfl
end Lw

set_option Elab.async false
set_option linter.all false
set_option maxRecDepth 100000
set_option maxHeartbeats 4000000
/-! K38B: the plain law of k38: the law's loop. -/
namespace Lw
open PySem L2 Qd Pl
theorem drawH {F : FF} (hF : F = F_take) {ga : SA} {ρ : Rho} {many N : Int} {xs xs1 : List D} {ah ah1 : List AO} (hg : ga ρ (.lst xs :: ah) = .ok [.ref 0, .int many] (.lst xs1 :: ah1)) (hb : BagOk N xs1) (hN : N < 2 ^ 59) (h0 : 0 < many) (h1 : many < 2 ^ 60) :
    ∃ (v : Int) (ys : List D), cCallB 2 0 F ga ρ (.lst xs :: ah) = .ok (.int v) (.lst ys :: ah1) ∧ 0 ≤ v ∧ v < many ∧ BagOk (N + 1) ys := by
  obtain ⟨v, ys, e, h⟩ := callB_take hF hg (m := 0) rfl hb (by omega) h0 (small_log (by omega) h1)
  exact ⟨v, ys, e, h⟩
theorem draw_someH {F : FF} (hF : F = F_some) {ga : SA} {ρ : Rho} {N : Int} {ds xs xs1 : List D} {ah ah1 : List AO} (hg : ga ρ (.lst xs :: ah) = .ok [.ref 0, .lst ds] (.lst xs1 :: ah1)) (hb : BagOk N xs1) (hN : N < 2 ^ 59) (h0 : 0 < ds.length) (hl : ds.length ≤ sizeLine) (hn : D.nrs ds = true) :
    ∃ (j : Nat) (hj : j < ds.length) (ys : List D), cCallB 2 0 F ga ρ (.lst xs :: ah) = .ok ds[j] (.lst ys :: ah1) ∧ BagOk (N + 1) ys := by
  subst hF
  obtain ⟨j, hj, ys, e, hb2⟩ := some_run hb hN h0 hl
  have hd : (ds[j]).nr = true := nrs_mem hn (List.getElem_mem hj)
  exact ⟨j, hj, ys, callB_gen (m := 0) hg rfl rfl rfl hb.nrs (by simp [calmD, D.nr, hn]) e hd hb2.nrs, hb2⟩
theorem callP_exc {F : FF} {ga : SA} {ρ : Rho} {ah ah1 h' : List AO} {n : Nat} {ds : List D} {y : Exn} (hg : ga ρ ah = .ok ds ah1) (hl : ds.length = n) (hc : ds.all calmD = true) (hF : F ds [] = .exc y h') (hd : D.nrs (y.fs.map (·.2)) = true) : cCallP n F ga ρ ah = .exc y ah1 := by
  unfold cCallP
  rw [hg]
  simp only [R.bind_ok, hl, if_true, snaps_calm hc, hF]
  unfold pureR
  simp only [hc]
  have : outsOk true (y.fs.map (·.2)) = true := hd
  rw [if_pos this]
def badE (i : Int) : Exn := ⟨"BadBytes", [("fault", .str (Str.ofString "integer")), ("index", .int i)]⟩
def badB (i : Int) : D := .tup [.str (Str.ofString "bytes"), .int i, .str (Str.ofString "integer")]
theorem lam_bad {f : SE} {ρ : Rho} {ah ah1 : List AO} {i : Int} (h : f ρ ah = .exc (badE i) ah1) : cLam 2 s__law_octets f ρ ah = .ok (badB i) ah1 := by
  unfold cLam s__law_octets sTry
  simp only [ap_ret, ap_tup, ap_cons, ap_c, R.bind_ok, h, R.bind_exc, R.out_exc]
  rfl
theorem sp_all : ∀ (A B : List Int), (∀ x ∈ A, 128 ≤ x) → sp (A ++ B) = A.length + sp B
  | [], B, _ => by simp
  | x :: A, B, h => by
    rw [List.cons_append, sp, if_pos (h x List.mem_cons_self), sp_all A B (fun y hy => h y (List.mem_cons_of_mem _ hy)), List.length_cons]; omega
theorem dgI_high : ∀ n : Nat, ∀ x ∈ dgI n, 128 ≤ x := by
  intro n
  induction n using Nat.strongRecOn with
  | ind n ih =>
    intro x hx
    by_cases h : 127 < n
    · rw [dgI_big h] at hx
      rcases List.mem_cons.mp hx with rfl | q
      · omega
      · exact ih (n / 128) (by omega) x q
    · rw [dgI_small h] at hx; cases hx
theorem dgL_byt (n : Nat) : 0 ≤ dgL n ∧ dgL n < 128 := by
  induction n using Nat.strongRecOn with
  | ind n ih =>
    by_cases h : 127 < n
    · rw [dgL_big h]; exact ih (n / 128) (by omega)
    · rw [dgL_small h]; omega
theorem read_good {i : Int} {xs : List Int} {v w : Int} (hx : ∀ x ∈ xs, 0 ≤ x) (h : rd i i 0 1 xs = .tup [.int v, .int w]) : rdR i (i + (sp xs : Nat)) xs = .ok (.tup [.int v, .int w]) [] := by
  rw [rd_sp xs i 0 1 hx] at h
  unfold rdR
  by_cases h1 : sp xs = xs.length
  · rw [if_pos h1] at h
    simp [badD] at h
  · rw [if_neg h1] at h ⊢
    by_cases h2 : i < i + (sp xs : Nat) ∧ xs.getD (sp xs) 0 = 0
    · rw [if_pos h2] at h
      simp [badD] at h
    · rw [if_neg h2] at h ⊢
      rw [Int.one_mul, Int.zero_add] at h
      rw [h]
theorem drop_at {xs ys : List Int} {n : Nat} (h : xs.length = n) : (xs ++ ys).drop n = ys := by
  subst h
  exact List.drop_left
theorem tup_plain (ys : List Int) : (D.tup (ys.map .int)).nr = true ∧ (D.tup (ys.map .int)).dep ≤ 64 ∧ D.sz (.tup (ys.map .int)) = ys.length + 1 := by
  refine ⟨by rw [D.nr]; exact nrs_ints _, by rw [D.dep, deps_ints]; decide, by rw [D.sz, szs_ints]⟩
theorem calm_tup (ys : List Int) : calmD (.tup (ys.map .int)) = true := (tup_plain ys).1
/-- the three readings -/
theorem read_own {as : List Int} {n : Nat} {rest : List Int} (ha : Byt as) (hr : Byt rest) (hl : as.length + (dgs n).length + rest.length ≤ 90) : F_read_integer [.tup ((as ++ dgs n ++ rest).map .int), .int as.length] [] = .ok (.tup [.int n, .int (as.length + (dgs n).length)]) [] := by
  have hlen : (as ++ dgs n ++ rest).length = as.length + (dgs n).length + rest.length := by simp only [List.length_append]
  have h := read_run (os := as ++ dgs n ++ rest) (i := as.length) (by omega) (by omega)
  rw [List.append_assoc, drop_at rfl, ← List.append_assoc] at h
  rw [h]
  have hg := rd_dgs (i := as.length) (rest := rest) n as.length 0 1 (fun h => by omega)
  rw [Int.zero_add, Int.one_mul] at hg
  exact read_good (fun x hx => by
    rcases List.mem_append.mp hx with q | q
    · exact (dgs_byt n x q).1
    · exact (hr x q).1) hg
theorem read_cut {as : List Int} {n : Nat} (hl : as.length + (dgI n).length ≤ 90) : F_read_integer [.tup ((as ++ dgI n).map .int), .int as.length] [] = .exc (badE as.length) [] := by
  have hlen : (as ++ dgI n).length = as.length + (dgI n).length := by simp only [List.length_append]
  have h := read_run (os := as ++ dgI n) (i := as.length) (by omega) (by omega)
  rw [drop_at rfl] at h
  rw [h]
  have hs := sp_all (dgI n) [] (dgI_high n)
  rw [List.append_nil] at hs
  unfold rdR
  rw [if_pos (by rw [hs]; simp [sp])]
  rfl
theorem read_long {as : List Int} {n : Nat} (hl : as.length + (dgI n).length ≤ 80) : F_read_integer [.tup ((as ++ (dgI n ++ [dgL n + 128, 0])).map .int), .int as.length] [] = .exc (badE as.length) [] := by
  have hlen : (as ++ (dgI n ++ [dgL n + 128, 0])).length = as.length + (dgI n).length + 2 := by simp only [List.length_append, List.length_cons, List.length_nil]; omega
  have h := read_run (os := as ++ (dgI n ++ [dgL n + 128, 0])) (i := as.length) (by omega) (by omega)
  rw [drop_at rfl] at h
  rw [h]
  have hb := dgL_byt n
  have hs : sp (dgI n ++ [dgL n + 128, 0]) = (dgI n).length + 1 := by
    rw [sp_all (dgI n) _ (dgI_high n), sp, if_pos (by omega), sp, if_neg (by omega)]
  have hg : (dgI n ++ [dgL n + 128, 0]).getD ((dgI n).length + 1) 0 = 0 := by
    rw [List.getD_eq_getElem?_getD, List.getElem?_append_right (by omega)]
    have : (dgI n).length + 1 - (dgI n).length = 1 := by omega
    rw [this]; rfl
  unfold rdR
  rw [hs, hg, if_neg (by simp only [List.length_append, List.length_cons, List.length_nil]; omega), if_pos ⟨by omega, rfl⟩]
  rfl
noncomputable def rF : SS := sRet (cC (.bl false))
noncomputable def p1 : SS := sAsg (cCallB 2 0 F__law_some (aCons (cVar 1) (aCons (cLst (aCons (cCallB 2 0 F__law_take (aCons (cVar 1) (aCons (cC (.int 200)) aNil))) (aCons (cCallB 2 0 F__law_take (aCons (cVar 1) (aCons (cOp dPow (cC (.int 10)) (cC (.int 9))) aNil))) (aCons (cC (.int 127)) (aCons (cC (.int 128)) (aCons (cC (.int 16384)) (aCons (cOp dAdd (cOp dPow (cC (.int 10)) (cC (.int 60))) (cCallB 2 0 F__law_take (aCons (cVar 1) (aCons (cOp dPow (cC (.int 10)) (cC (.int 9))) aNil)))) aNil))))))) aNil))) (gNm 3)
noncomputable def eDr (m : Int) : SE := cLc (iRange1 (aCons (cCallB 2 0 F__law_take (aCons (cVar 1) (aCons (cC (.int m)) aNil))) aNil)) (gNm 14) cYes (cCallB 2 0 F__law_take (aCons (cVar 1) (aCons (cC (.int 256)) aNil))) [14]
noncomputable def p2 : SS := sAsg (cTup (aCons (cCallP 1 F__law_integer (aCons (cVar 3) aNil)) (aCons (cBi bTuple (aCons (eDr 5) aNil)) aNil))) (gTp 2 (gsCons (gNm 4) (gsCons (gNm 5) gsNil)))
noncomputable def p3 : SS := sIf (cNot (cCallP 2 F__law_alike (aCons (cLst (aCons (cCallP 1 F_integer_octets (aCons (cVar 3) aNil)) (aCons (cCallP 2 F_read_integer (aCons (cOp dAdd (cOp dAdd (cVar 5) (cVar 4)) (cTup (aCons (cC (.int 5)) aNil))) (aCons (cBi bLen (aCons (cVar 5) aNil)) aNil))) aNil))) (aCons (cLst (aCons (cVar 4) (aCons (cTup (aCons (cVar 3) (aCons (cOp dAdd (cBi bLen (aCons (cVar 5) aNil)) (cBi bLen (aCons (cVar 4) aNil))) aNil))) aNil))) aNil)))) rF sNext
noncomputable def p4 : SS := sAsg (cLam 2 s__law_octets (cCallP 2 F_read_integer (aCons (cOp dAdd (cVar 5) (cSl (cVar 4) oNone (oSome (cUn dNeg (cC (.int 1)))))) (aCons (cBi bLen (aCons (cVar 5) aNil)) aNil)))) (gNm 6)
noncomputable def p5 : SS := sIf (cOp dNe (cVar 6) (cTup (aCons (cC (.str (Str.ofString "bytes"))) (aCons (cBi bLen (aCons (cVar 5) aNil)) (aCons (cC (.str (Str.ofString "integer"))) aNil))))) rF sNext
noncomputable def p6a : SS := sAsg (cOp dAdd (cSl (cVar 4) oNone (oSome (cUn dNeg (cC (.int 1))))) (cTup (aCons (cOp dAdd (cBi bInt (aCons (cOp dIx (cVar 4) (cUn dNeg (cC (.int 1)))) aNil)) (cC (.int 128))) (aCons (cC (.int 0)) aNil)))) (gNm 7)
noncomputable def p6b : SS := sAsg (cLam 2 s__law_octets (cCallP 2 F_read_integer (aCons (cOp dAdd (cVar 5) (cVar 7)) (aCons (cBi bLen (aCons (cVar 5) aNil)) aNil)))) (gNm 6)
noncomputable def p6 : SS := sIf (cOp dGt (cBi bLen (aCons (cVar 4) aNil)) (cC (.int 1))) (sSeq p6a (sSeq p6b p5)) sNext
noncomputable def p7 : SS := sAsg (cBi bTuple (aCons (eDr 20) aNil)) (gNm 8)
noncomputable def p8 : SS := sAsg (cCallP 1 F__law_sealed (aCons (cVar 8) aNil)) (gNm 9)
noncomputable def p9 : SS := sIf (cNot (cCallP 2 F__law_alike (aCons (cLst (aCons (cCallP 1 F_check_of (aCons (cVar 8) aNil)) (aCons (cCallP 1 F_sealed (aCons (cVar 8) aNil)) (aCons (cCallP 1 F_is_sealed (aCons (cVar 9) aNil)) aNil)))) (aCons (cLst (aCons (cCallP 1 F__law_check (aCons (cVar 8) aNil)) (aCons (cVar 9) (aCons (cC (.bl true)) aNil)))) aNil)))) rF sNext
noncomputable def p10 : SS := sPar 10 11 (aCons (cCallB 2 0 F__law_take (aCons (cVar 1) (aCons (cBi bLen (aCons (cVar 9) aNil)) aNil))) (aCons (cOp dAdd (cC (.int 1)) (cCallB 2 0 F__law_take (aCons (cVar 1) (aCons (cC (.int 3)) aNil)))) aNil))
noncomputable def p11 : SS := sAsg (cBi bListM (aCons (cVar 9) aNil)) (gNm 12)
noncomputable def b12 : SS := sSetIx (cOp dMod (cBi bInt (aCons (cOp dAdd (cOp dAdd (cOp dIx (cVar 12) (cVar 13)) (cC (.int 1))) (cCallB 2 0 F__law_take (aCons (cVar 1) (aCons (cC (.int 255)) aNil)))) aNil)) (cC (.int 256))) (cVar 12) (cVar 13)
noncomputable def p12 : SS := sFor (iRange2 (aCons (cVar 10) (aCons (cBi bMin2 (aCons (cOp dAdd (cVar 10) (cVar 11)) (aCons (cBi bLen (aCons (cVar 9) aNil)) aNil))) aNil))) (gNm 13) b12
noncomputable def p13 : SS := sIf (cOp (dIsB true) (cCallP 1 F_is_sealed (aCons (cBi bTuple (aCons (cVar 12) aNil)) aNil)) (cC (.bl false))) rF sNext
noncomputable def pB : SS := sSeq p1 (sSeq p2 (sSeq p3 (sSeq p4 (sSeq p5 (sSeq p6 (sSeq p7 (sSeq p8 (sSeq p9 (sSeq p10 (sSeq p11 (sSeq p12 p13)))))))))))
theorem law_shape : s_law = sSeq (sAsg (cCallN 1 F__law_bag (aCons (cVar 0) aNil)) (gNm 1)) (sSeq (sFor (iRange1 (aCons (cC (.int 9)) aNil)) (gNm 2) pB) (sRet (cC (.bl true)))) := rfl
theorem if_not_ok {c : SE} {ρ : Rho} {ah : List AO} (h : c ρ ah = .ok (.bl true) ah) : sIf (cNot c) rF sNext ρ ah = .nx ρ ah := by
  rw [ap_if, ap_not, h, R.bind_ok, onB_true, R.out_ok, onBO_false]; rfl
theorem if_ok {c : SE} {ρ : Rho} {ah : List AO} (h : c ρ ah = .ok (.bl false) ah) : sIf c rF sNext ρ ah = .nx ρ ah := by
  rw [ap_if, h, R.out_ok, onBO_false]; rfl
/-- the names -/
def rr (s t a3 a4 a5 a6 a7 a8 a9 a10 a11 a12 a13 a14 : Option D) : Rho := [s, some (.ref 0), t, a3, a4, a5, a6, a7, a8, a9, a10, a11, a12, a13, a14]
section
variable {s t a3 a4 a5 a6 a7 a8 a9 a10 a11 a12 a13 a14 : Option D} {xs : List D} {ah : List AO} {os as : List Int} {n : Nat} {N : Int}
theorem powK {a : List AO} : dPow (.int 10) (.int 9) a = .ok (.int 1000000000) a := by
  unfold dPow
  rw [dInt_ii (by decide)]
  rfl
theorem p1_run (hb : BagOk N xs) (hN : N < 2 ^ 50) : ∃ (n : Nat) (ys : List D), p1 (rr s t a3 a4 a5 a6 a7 a8 a9 a10 a11 a12 a13 a14) (.lst xs :: ah) = .nx (rr s t (some (.int n)) a4 a5 a6 a7 a8 a9 a10 a11 a12 a13 a14) (.lst ys :: ah) ∧ (n : Int) < 10 ^ 60 + 1000000000 ∧ BagOk (N + 4) ys := by
  obtain ⟨v1, x1, e1, c1, d1, hb1⟩ := drawH take_eq (ga := aCons (cVar 1) (aCons (cC (.int 200)) aNil)) (ρ := rr s t a3 a4 a5 a6 a7 a8 a9 a10 a11 a12 a13 a14) (many := 200) (xs := xs) (xs1 := xs) (ah := ah) (ah1 := ah) rfl hb (by omega) (by decide) (by decide)
  obtain ⟨v2, x2, e2, c2, d2, hb2⟩ := drawH take_eq (ga := aCons (cVar 1) (aCons (cOp dPow (cC (.int 10)) (cC (.int 9))) aNil)) (ρ := rr s t a3 a4 a5 a6 a7 a8 a9 a10 a11 a12 a13 a14) (many := 1000000000) (xs := x1) (xs1 := x1) (ah := ah) (ah1 := ah) (by simp only [ap_var, ap_c, ap_op, ap_nil, ap_cons, ap_bi, ap_seq, ap_if, ap_asg, ap_nm, ap_ret, ap_next, ap_drop, ap_sl, ap_oN, ap_oS, ap_setIx, ap_augIx, ap_lst, R.bind_ok, R.bind_exc, R.bind_stuck, R.out_ok, R.out_exc, R.out_stuck, Out.seq_nx, Out.seq_rt, onBO_true, onBO_false, onB_true, onB_false, endF_rt, endF_nx, dEq_ii, dNe_ii, dLt_ii, dGt_ii, dLe_ii, dGe_ii, dAdd_ii, bInt_i, List.getElem?_cons_zero, List.getElem?_cons_succ, List.set_cons_zero, List.set_cons_succ, List.map_cons, List.map_nil, List.length_cons, List.length_nil, List.replicate, List.cons_append, List.nil_append, Nat.reduceAdd, Nat.reduceSub, rr, powK]) hb1 (by omega) (by decide) (by decide)
  obtain ⟨v3, x3, e3, c3, d3, hb3⟩ := drawH take_eq (ga := aCons (cVar 1) (aCons (cOp dPow (cC (.int 10)) (cC (.int 9))) aNil)) (ρ := rr s t a3 a4 a5 a6 a7 a8 a9 a10 a11 a12 a13 a14) (many := 1000000000) (xs := x2) (xs1 := x2) (ah := ah) (ah1 := ah) (by simp only [ap_var, ap_c, ap_op, ap_nil, ap_cons, ap_bi, ap_seq, ap_if, ap_asg, ap_nm, ap_ret, ap_next, ap_drop, ap_sl, ap_oN, ap_oS, ap_setIx, ap_augIx, ap_lst, R.bind_ok, R.bind_exc, R.bind_stuck, R.out_ok, R.out_exc, R.out_stuck, Out.seq_nx, Out.seq_rt, onBO_true, onBO_false, onB_true, onB_false, endF_rt, endF_nx, dEq_ii, dNe_ii, dLt_ii, dGt_ii, dLe_ii, dGe_ii, dAdd_ii, bInt_i, List.getElem?_cons_zero, List.getElem?_cons_succ, List.set_cons_zero, List.set_cons_succ, List.map_cons, List.map_nil, List.length_cons, List.length_nil, List.replicate, List.cons_append, List.nil_append, Nat.reduceAdd, Nat.reduceSub, rr, powK]) hb2 (by omega) (by decide) (by decide)
  have hall : ∀ x ∈ [v1, v2, 127, 128, 16384, 10 ^ 60 + v3], 0 ≤ x ∧ x < 10 ^ 60 + 1000000000 := by
    intro x hx
    simp only [List.mem_cons, List.not_mem_nil, or_false] at hx
    rcases hx with rfl | rfl | rfl | rfl | rfl | rfl <;> omega
  generalize hz : [v1, v2, 127, 128, 16384, 10 ^ 60 + v3] = zs at hall
  have hzl : zs.length = 6 := by rw [← hz]; rfl
  have z9 : 6 ≤ sizeLine := by decide
  have hg : (aCons (cVar 1) (aCons (cLst (aCons (cCallB 2 0 F__law_take (aCons (cVar 1) (aCons (cC (.int 200)) aNil))) (aCons (cCallB 2 0 F__law_take (aCons (cVar 1) (aCons (cOp dPow (cC (.int 10)) (cC (.int 9))) aNil))) (aCons (cC (.int 127)) (aCons (cC (.int 128)) (aCons (cC (.int 16384)) (aCons (cOp dAdd (cOp dPow (cC (.int 10)) (cC (.int 60))) (cCallB 2 0 F__law_take (aCons (cVar 1) (aCons (cOp dPow (cC (.int 10)) (cC (.int 9))) aNil)))) aNil))))))) aNil)) (rr s t a3 a4 a5 a6 a7 a8 a9 a10 a11 a12 a13 a14) (.lst xs :: ah) = .ok [.ref 0, .lst (zs.map .int)] (.lst x3 :: ah) := by
    rw [← hz]
    unfold rr at e1 e2 e3 ⊢
    simp only [ap_var, ap_c, ap_op, ap_nil, ap_cons, ap_bi, ap_seq, ap_if, ap_asg, ap_nm, ap_ret, ap_next, ap_drop, ap_sl, ap_oN, ap_oS, ap_setIx, ap_augIx, ap_lst, R.bind_ok, R.bind_exc, R.bind_stuck, R.out_ok, R.out_exc, R.out_stuck, Out.seq_nx, Out.seq_rt, onBO_true, onBO_false, onB_true, onB_false, endF_rt, endF_nx, dEq_ii, dNe_ii, dLt_ii, dGt_ii, dLe_ii, dGe_ii, dAdd_ii, bInt_i, List.getElem?_cons_zero, List.getElem?_cons_succ, List.set_cons_zero, List.set_cons_succ, List.map_cons, List.map_nil, List.length_cons, List.length_nil, List.replicate, List.cons_append, List.nil_append, Nat.reduceAdd, Nat.reduceSub, e1, e2, e3, pow60, if_pos z9]
  obtain ⟨j, hj, ys, e4, hb4⟩ := draw_someH some_eq hg hb3 (by omega) (by rw [List.length_map, hzl]; decide) (by rw [List.length_map, hzl]; exact z9) (nrs_ints _)
  have hj2 : j < zs.length := by rw [List.length_map] at hj; exact hj
  have hq := hall zs[j] (List.getElem_mem hj2)
  refine ⟨zs[j].toNat, ys, ?_, by omega, hb4.mono (by omega)⟩
  unfold p1
  rw [ap_asg, e4, List.getElem_map, Int.toNat_of_nonneg hq.1, R.out_ok]
  rfl
theorem dr_run {m : Int} (hb : BagOk N xs) (hN : N < 2 ^ 50) (m0 : 0 < m) (m1 : m < 1000) : ∃ (os : List Int) (ys : List D), eDr m (rr s t a3 a4 a5 a6 a7 a8 a9 a10 a11 a12 a13 a14) (.lst xs :: ah) = .ok (.lst (os.map .int)) (.lst ys :: ah) ∧ (os.length : Int) < m ∧ Byt os ∧ BagOk (N + m + 1) ys := by
  obtain ⟨v, x1, e1, c1, d1, hb1⟩ := drawH take_eq (ga := aCons (cVar 1) (aCons (cC (.int m)) aNil)) (ρ := rr s t a3 a4 a5 a6 a7 a8 a9 a10 a11 a12 a13 a14) (many := m) (xs := xs) (xs1 := xs) (ah := ah) (ah1 := ah) rfl hb (by omega) m0 (by omega)
  have hit : iRange1 (aCons (cCallB 2 0 F__law_take (aCons (cVar 1) (aCons (cC (.int m)) aNil))) aNil) (rr s t a3 a4 a5 a6 a7 a8 a9 a10 a11 a12 a13 a14) (.lst xs :: ah) = .ok ⟨rng 0 v.toNat, []⟩ (.lst x1 :: ah) := range1_run (by simp only [ap_var, ap_c, ap_op, ap_nil, ap_cons, ap_bi, ap_seq, ap_if, ap_asg, ap_nm, ap_ret, ap_next, ap_drop, ap_sl, ap_oN, ap_oS, ap_setIx, ap_augIx, ap_lst, R.bind_ok, R.bind_exc, R.bind_stuck, R.out_ok, R.out_exc, R.out_stuck, Out.seq_nx, Out.seq_rt, onBO_true, onBO_false, onB_true, onB_false, endF_rt, endF_nx, dEq_ii, dNe_ii, dLt_ii, dGt_ii, dLe_ii, dGe_ii, dAdd_ii, bInt_i, List.getElem?_cons_zero, List.getElem?_cons_succ, List.set_cons_zero, List.set_cons_succ, List.map_cons, List.map_nil, List.length_cons, List.length_nil, List.replicate, List.cons_append, List.nil_append, Nat.reduceAdd, Nat.reduceSub, e1]) (by omega) (by omega)
  obtain ⟨acc, ah', e2, ⟨os, ys, rfl, hos, hby, rfl, hb2⟩⟩ := compL_all (g := gNm 14) (f := cCallB 2 0 F__law_take (aCons (cVar 1) (aCons (cC (.int 256)) aNil))) (ρ := rr s t a3 a4 a5 a6 a7 a8 a9 a10 a11 a12 a13 none) (items := rng 0 v.toNat) (ah := .lst x1 :: ah)
    (P := fun i acc ah' => ∃ (os : List Int) (ys : List D), acc = os.map D.int ∧ os.length = i ∧ Byt os ∧ ah' = .lst ys :: ah ∧ BagOk (N + 1 + i) ys) ⟨[], x1, rfl, rfl, (fun x hx => by cases hx), rfl, hb1.mono (by omega)⟩ (fun i d acc ah' hd hP => by
      obtain ⟨os, ys, rfl, hos, hby, rfl, hb2⟩ := hP
      have hi := (rng_get hd).1
      obtain ⟨w, y2, e3, c3, d3, hb3⟩ := drawH take_eq (ga := aCons (cVar 1) (aCons (cC (.int 256)) aNil)) (ρ := rr s t a3 a4 a5 a6 a7 a8 a9 a10 a11 a12 a13 (some d)) (many := 256) (xs := ys) (xs1 := ys) (ah := ah) (ah1 := ah) rfl hb2 (by omega) (by decide) (by decide)
      refine ⟨rr s t a3 a4 a5 a6 a7 a8 a9 a10 a11 a12 a13 (some d), .int w, .lst y2 :: ah, rfl, e3, os ++ [w], y2, by simp, by simp [hos], hby.app (fun x hx => ?_), rfl, hb3.mono (by omega)⟩
      simp only [List.mem_singleton] at hx
      omega)
  rw [rng_len] at hos hb2
  refine ⟨os, ys, ?_, by omega, hby, hb2.mono (by omega)⟩
  unfold eDr cLc
  rw [hit]
  exact e2
theorem p2_run (hb : BagOk N xs) (hN : N < 2 ^ 50) (h : (dgI n).length + 1 ≤ sizeLine) : ∃ (as : List Int) (ys : List D), p2 (rr s t (some (.int n)) a4 a5 a6 a7 a8 a9 a10 a11 a12 a13 a14) (.lst xs :: ah) = .nx (rr s t (some (.int n)) (some (.tup ((dgs n).map .int))) (some (.tup (as.map .int))) a6 a7 a8 a9 a10 a11 a12 a13 a14) (.lst ys :: ah) ∧ as.length < 5 ∧ Byt as ∧ BagOk (N + 6) ys := by
  obtain ⟨as, ys, e1, hl, hby, hb2⟩ := dr_run (s := s) (t := t) (a3 := some (.int n)) (a4 := a4) (a5 := a5) (a6 := a6) (a7 := a7) (a8 := a8) (a9 := a9) (a10 := a10) (a11 := a11) (a12 := a12) (a13 := a13) (a14 := a14) (ah := ah) (m := 5) hb hN (by decide) (by decide)
  obtain ⟨ah', e⟩ := law_integer_run h
  have e2 : cCallP 1 F__law_integer (aCons (cVar 3) aNil) (rr s t (some (.int n)) a4 a5 a6 a7 a8 a9 a10 a11 a12 a13 a14) (.lst xs :: ah) = .ok (.tup ((dgs n).map .int)) (.lst xs :: ah) := callP_gen (ds := [.int n]) rfl rfl rfl e (tup_plain _).1
  have e3 : bTuple [.lst (as.map .int)] (.lst ys :: ah) = .ok (.tup (as.map .int)) (.lst ys :: ah) := rfl
  have z2 : 2 ≤ sizeLine := by decide
  refine ⟨as, ys, ?_, by omega, hby, hb2.mono (by omega)⟩
  unfold p2
  simp only [ap_var, ap_c, ap_op, ap_nil, ap_cons, ap_bi, ap_seq, ap_if, ap_asg, ap_nm, ap_ret, ap_next, ap_drop, ap_sl, ap_oN, ap_oS, ap_setIx, ap_augIx, ap_lst, R.bind_ok, R.bind_exc, R.bind_stuck, R.out_ok, R.out_exc, R.out_stuck, Out.seq_nx, Out.seq_rt, onBO_true, onBO_false, onB_true, onB_false, endF_rt, endF_nx, dEq_ii, dNe_ii, dLt_ii, dGt_ii, dLe_ii, dGe_ii, dAdd_ii, bInt_i, List.getElem?_cons_zero, List.getElem?_cons_succ, List.set_cons_zero, List.set_cons_succ, List.map_cons, List.map_nil, List.length_cons, List.length_nil, List.replicate, List.cons_append, List.nil_append, Nat.reduceAdd, Nat.reduceSub, ap_tup, e2, e1, e3, if_pos z2]
  rfl
theorem len_any {ys : List Int} {h : List AO} : bLen [.tup (ys.map .int)] h = .ok (.int (ys.length : Nat)) h := by
  show R.ok (D.int ((ys.map D.int).length : Nat)) h = _
  rw [List.length_map]
theorem p3_run (ha : Byt as) (hal : as.length < 5) (hd : (dgI n).length ≤ 40) : p3 (rr s t (some (.int n)) (some (.tup ((dgs n).map .int))) (some (.tup (as.map .int))) a6 a7 a8 a9 a10 a11 a12 a13 a14) (.lst xs :: ah) = .nx (rr s t (some (.int n)) (some (.tup ((dgs n).map .int))) (some (.tup (as.map .int))) a6 a7 a8 a9 a10 a11 a12 a13 a14) (.lst xs :: ah) := by
  have z : 1000 ≤ sizeLine := by rw [sizeLine_eq]; decide
  have z2 : 2 ≤ sizeLine := by decide
  have z1 : 1 ≤ sizeLine := by decide
  have hdl := dgs_len n
  obtain ⟨ah', e⟩ := octets_run (n := n) (by omega)
  have e1 : cCallP 1 F_integer_octets (aCons (cVar 3) aNil) (rr s t (some (.int n)) (some (.tup ((dgs n).map .int))) (some (.tup (as.map .int))) a6 a7 a8 a9 a10 a11 a12 a13 a14) (.lst xs :: ah) = .ok (.tup ((dgs n).map .int)) (.lst xs :: ah) := callP_gen (ds := [.int n]) rfl rfl rfl e (tup_plain _).1
  have e8 : dAdd (.tup (as.map .int)) (.tup ((dgs n).map .int)) (.lst xs :: ah) = .ok (.tup ((as ++ dgs n).map .int)) (.lst xs :: ah) := by
    rw [add_tt (by simp only [List.length_map]; omega), List.map_append]
  have e9 : dAdd (.tup ((as ++ dgs n).map .int)) (.tup [.int 5]) (.lst xs :: ah) = .ok (.tup ((as ++ dgs n ++ [5]).map .int)) (.lst xs :: ah) := by
    rw [add_tt (by simp only [List.length_map, List.length_append, List.length_cons, List.length_nil]; omega), List.map_append (l₁ := as ++ dgs n)]; rfl
  have hr := read_own (as := as) (n := n) (rest := [5]) ha (fun x hx => by simp only [List.mem_singleton] at hx; omega) (by simp only [List.length_cons, List.length_nil]; omega)
  have e2 : cCallP 2 F_read_integer (aCons (cOp dAdd (cOp dAdd (cVar 5) (cVar 4)) (cTup (aCons (cC (.int 5)) aNil))) (aCons (cBi bLen (aCons (cVar 5) aNil)) aNil)) (rr s t (some (.int n)) (some (.tup ((dgs n).map .int))) (some (.tup (as.map .int))) a6 a7 a8 a9 a10 a11 a12 a13 a14) (.lst xs :: ah) = .ok (.tup [.int n, .int (as.length + (dgs n).length)]) (.lst xs :: ah) := by
    refine callP_gen (ds := [.tup ((as ++ dgs n ++ [5]).map .int), .int as.length]) ?_ rfl (by simp only [List.all_cons, List.all_nil, calm_tup, Bool.true_and]; rfl) hr rfl
    simp only [ap_var, ap_c, ap_op, ap_nil, ap_cons, ap_bi, ap_seq, ap_if, ap_asg, ap_nm, ap_ret, ap_next, ap_drop, ap_sl, ap_oN, ap_oS, ap_setIx, ap_augIx, ap_lst, R.bind_ok, R.bind_exc, R.bind_stuck, R.out_ok, R.out_exc, R.out_stuck, Out.seq_nx, Out.seq_rt, onBO_true, onBO_false, onB_true, onB_false, endF_rt, endF_nx, dEq_ii, dNe_ii, dLt_ii, dGt_ii, dLe_ii, dGe_ii, dAdd_ii, bInt_i, List.getElem?_cons_zero, List.getElem?_cons_succ, List.set_cons_zero, List.set_cons_succ, List.map_cons, List.map_nil, List.length_cons, List.length_nil, List.replicate, List.cons_append, List.nil_append, Nat.reduceAdd, Nat.reduceSub, rr, e8, ap_tup, if_pos z1, e9, len_any]
  have hd2 : D.dep (.lst [.tup ((dgs n).map .int), .tup [.int n, .int (as.length + (dgs n).length)]]) ≤ 64 := by
    simp only [D.dep, D.deps, deps_ints]; decide
  have hs : D.sz (.lst [.tup ((dgs n).map .int), .tup [.int n, .int (as.length + (dgs n).length)]]) ≤ sizeLine := by
    simp only [D.sz, D.szs, szs_ints]; omega
  refine if_not_ok (alike_call alike_eq (d := .lst [.tup ((dgs n).map .int), .tup [.int n, .int (as.length + (dgs n).length)]]) ?_ (by simp [D.nr, D.nrs, nrs_ints]) hd2 hs)
  unfold rr at e1 e2 ⊢
  simp only [ap_var, ap_c, ap_op, ap_nil, ap_cons, ap_bi, ap_seq, ap_if, ap_asg, ap_nm, ap_ret, ap_next, ap_drop, ap_sl, ap_oN, ap_oS, ap_setIx, ap_augIx, ap_lst, R.bind_ok, R.bind_exc, R.bind_stuck, R.out_ok, R.out_exc, R.out_stuck, Out.seq_nx, Out.seq_rt, onBO_true, onBO_false, onB_true, onB_false, endF_rt, endF_nx, dEq_ii, dNe_ii, dLt_ii, dGt_ii, dLe_ii, dGe_ii, dAdd_ii, bInt_i, List.getElem?_cons_zero, List.getElem?_cons_succ, List.set_cons_zero, List.set_cons_succ, List.map_cons, List.map_nil, List.length_cons, List.length_nil, List.replicate, List.cons_append, List.nil_append, Nat.reduceAdd, Nat.reduceSub, e1, e2, len_any, ap_tup, if_pos z2]
theorem cutI {h : List AO} : dSl (.tup ((dgs n).map .int)) none (some (-1)) h = .ok (.tup ((dgI n).map .int)) h := by
  have e0 : (dgs n).take ((dgs n).length - 1) = dgI n := by
    rw [dgs_len, Nat.add_sub_cancel]
    unfold dgs
    exact List.take_left
  show R.ok (D.tup (cut ((dgs n).map D.int) none (some (-((1 : Nat) : Int))))) _ = _
  rw [cut_back (by decide), ← List.map_take, List.length_map, e0]
theorem neg1 {ρ : Rho} {h : List AO} : cUn dNeg (cC (.int 1)) ρ h = .ok (.int (-1)) h := rfl
theorem p4_run (hal : as.length < 5) (hd : (dgI n).length ≤ 40) : p4 (rr s t (some (.int n)) (some (.tup ((dgs n).map .int))) (some (.tup (as.map .int))) a6 a7 a8 a9 a10 a11 a12 a13 a14) (.lst xs :: ah) = .nx (rr s t (some (.int n)) (some (.tup ((dgs n).map .int))) (some (.tup (as.map .int))) (some (badB as.length)) a7 a8 a9 a10 a11 a12 a13 a14) (.lst xs :: ah) := by
  have z : 1000 ≤ sizeLine := by rw [sizeLine_eq]; decide
  have e8 : dAdd (.tup (as.map .int)) (.tup ((dgI n).map .int)) (.lst xs :: ah) = .ok (.tup ((as ++ dgI n).map .int)) (.lst xs :: ah) := by
    rw [add_tt (by simp only [List.length_map]; omega), List.map_append]
  have e2 : cCallP 2 F_read_integer (aCons (cOp dAdd (cVar 5) (cSl (cVar 4) oNone (oSome (cUn dNeg (cC (.int 1)))))) (aCons (cBi bLen (aCons (cVar 5) aNil)) aNil)) (rr s t (some (.int n)) (some (.tup ((dgs n).map .int))) (some (.tup (as.map .int))) a6 a7 a8 a9 a10 a11 a12 a13 a14) (.lst xs :: ah) = .exc (badE as.length) (.lst xs :: ah) := by
    refine callP_exc (ds := [.tup ((as ++ dgI n).map .int), .int as.length]) ?_ rfl (by simp only [List.all_cons, List.all_nil, calm_tup, Bool.true_and]; rfl) (read_cut (by omega)) rfl
    simp only [ap_var, ap_c, ap_op, ap_nil, ap_cons, ap_bi, ap_seq, ap_if, ap_asg, ap_nm, ap_ret, ap_next, ap_drop, ap_sl, ap_oN, ap_oS, ap_setIx, ap_augIx, ap_lst, R.bind_ok, R.bind_exc, R.bind_stuck, R.out_ok, R.out_exc, R.out_stuck, Out.seq_nx, Out.seq_rt, onBO_true, onBO_false, onB_true, onB_false, endF_rt, endF_nx, dEq_ii, dNe_ii, dLt_ii, dGt_ii, dLe_ii, dGe_ii, dAdd_ii, bInt_i, List.getElem?_cons_zero, List.getElem?_cons_succ, List.set_cons_zero, List.set_cons_succ, List.map_cons, List.map_nil, List.length_cons, List.length_nil, List.replicate, List.cons_append, List.nil_append, Nat.reduceAdd, Nat.reduceSub, rr, neg1, cutI, e8, len_any]
  unfold p4
  rw [ap_asg, lam_bad e2, R.out_ok]
  rfl
theorem p5_run : p5 (rr s t a3 a4 (some (.tup (as.map .int))) (some (badB as.length)) a7 a8 a9 a10 a11 a12 a13 a14) (.lst xs :: ah) = .nx (rr s t a3 a4 (some (.tup (as.map .int))) (some (badB as.length)) a7 a8 a9 a10 a11 a12 a13 a14) (.lst xs :: ah) := by
  have z3 : 3 ≤ sizeLine := by decide
  have e2 : dNe (badB as.length) (badB as.length) (.lst xs :: ah) = .ok (.bl false) (.lst xs :: ah) := dNe_self rfl rfl (by simp [badB, D.dep, D.deps])
  refine if_ok ?_
  simp only [ap_var, ap_c, ap_op, ap_nil, ap_cons, ap_bi, ap_seq, ap_if, ap_asg, ap_nm, ap_ret, ap_next, ap_drop, ap_sl, ap_oN, ap_oS, ap_setIx, ap_augIx, ap_lst, R.bind_ok, R.bind_exc, R.bind_stuck, R.out_ok, R.out_exc, R.out_stuck, Out.seq_nx, Out.seq_rt, onBO_true, onBO_false, onB_true, onB_false, endF_rt, endF_nx, dEq_ii, dNe_ii, dLt_ii, dGt_ii, dLe_ii, dGe_ii, dAdd_ii, bInt_i, List.getElem?_cons_zero, List.getElem?_cons_succ, List.set_cons_zero, List.set_cons_succ, List.map_cons, List.map_nil, List.length_cons, List.length_nil, List.replicate, List.cons_append, List.nil_append, Nat.reduceAdd, Nat.reduceSub, rr, ap_tup, len_any, if_pos z3]
  exact e2
theorem p6_run (hal : as.length < 5) (hd : (dgI n).length ≤ 40) : ∃ b7, p6 (rr s t (some (.int n)) (some (.tup ((dgs n).map .int))) (some (.tup (as.map .int))) (some (badB as.length)) a7 a8 a9 a10 a11 a12 a13 a14) (.lst xs :: ah) = .nx (rr s t (some (.int n)) (some (.tup ((dgs n).map .int))) (some (.tup (as.map .int))) (some (badB as.length)) b7 a8 a9 a10 a11 a12 a13 a14) (.lst xs :: ah) := by
  have z : 1000 ≤ sizeLine := by rw [sizeLine_eq]; decide
  have z2 : 2 ≤ sizeLine := by decide
  by_cases h : 1 < (dgs n).length
  · have d1 : decide ((1 : Int) < ((dgs n).length : Nat)) = true := by simp; omega
    have eI : dIx (.tup ((dgs n).map .int)) (.int (-1)) (.lst xs :: ah) = .ok (.int (dgL n)) (.lst xs :: ah) := by
      show ret? (atI ((dgs n).map D.int) (-1)) _ = _
      have : atI ((dgs n).map D.int) (-1) = some (.int (dgL n)) := by
        unfold atI ixN
        rw [if_neg (by decide), List.length_map, dgs_len, if_pos (by omega)]
        have e : ((-1 : Int) + (((dgI n).length + 1 : Nat) : Int)).toNat = (dgI n).length := by omega
        rw [e]
        show ((dgs n).map D.int)[(dgI n).length]? = _
        unfold dgs
        rw [List.getElem?_map, List.getElem?_append_right (Nat.le_refl _), Nat.sub_self]; rfl
      rw [this]; rfl
    have e8 : dAdd (.tup ((dgI n).map .int)) (.tup [.int (dgL n + 128), .int 0]) (.lst xs :: ah) = .ok (.tup ((dgI n ++ [dgL n + 128, 0]).map .int)) (.lst xs :: ah) := by
      rw [add_tt (by simp only [List.length_map, List.length_cons, List.length_nil]; omega), List.map_append]; rfl
    have s1 : p6a (rr s t (some (.int n)) (some (.tup ((dgs n).map .int))) (some (.tup (as.map .int))) (some (badB as.length)) a7 a8 a9 a10 a11 a12 a13 a14) (.lst xs :: ah) = .nx (rr s t (some (.int n)) (some (.tup ((dgs n).map .int))) (some (.tup (as.map .int))) (some (badB as.length)) (some (.tup ((dgI n ++ [dgL n + 128, 0]).map .int))) a8 a9 a10 a11 a12 a13 a14) (.lst xs :: ah) := by
      unfold p6a
      simp only [ap_var, ap_c, ap_op, ap_nil, ap_cons, ap_bi, ap_seq, ap_if, ap_asg, ap_nm, ap_ret, ap_next, ap_drop, ap_sl, ap_oN, ap_oS, ap_setIx, ap_augIx, ap_lst, R.bind_ok, R.bind_exc, R.bind_stuck, R.out_ok, R.out_exc, R.out_stuck, Out.seq_nx, Out.seq_rt, onBO_true, onBO_false, onB_true, onB_false, endF_rt, endF_nx, dEq_ii, dNe_ii, dLt_ii, dGt_ii, dLe_ii, dGe_ii, dAdd_ii, bInt_i, List.getElem?_cons_zero, List.getElem?_cons_succ, List.set_cons_zero, List.set_cons_succ, List.map_cons, List.map_nil, List.length_cons, List.length_nil, List.replicate, List.cons_append, List.nil_append, Nat.reduceAdd, Nat.reduceSub, rr, neg1, cutI, eI, ap_tup, if_pos z2, e8]
    have e9 : dAdd (.tup (as.map .int)) (.tup ((dgI n ++ [dgL n + 128, 0]).map .int)) (.lst xs :: ah) = .ok (.tup ((as ++ (dgI n ++ [dgL n + 128, 0])).map .int)) (.lst xs :: ah) := by
      rw [add_tt (by simp only [List.length_map, List.length_append, List.length_cons, List.length_nil]; omega), List.map_append (l₁ := as)]
    have e2 : cCallP 2 F_read_integer (aCons (cOp dAdd (cVar 5) (cVar 7)) (aCons (cBi bLen (aCons (cVar 5) aNil)) aNil)) (rr s t (some (.int n)) (some (.tup ((dgs n).map .int))) (some (.tup (as.map .int))) (some (badB as.length)) (some (.tup ((dgI n ++ [dgL n + 128, 0]).map .int))) a8 a9 a10 a11 a12 a13 a14) (.lst xs :: ah) = .exc (badE as.length) (.lst xs :: ah) := by
      refine callP_exc (ds := [.tup ((as ++ (dgI n ++ [dgL n + 128, 0])).map .int), .int as.length]) ?_ rfl (by simp only [List.all_cons, List.all_nil, calm_tup, Bool.true_and]; rfl) (read_long (by omega)) rfl
      simp only [ap_var, ap_c, ap_op, ap_nil, ap_cons, ap_bi, ap_seq, ap_if, ap_asg, ap_nm, ap_ret, ap_next, ap_drop, ap_sl, ap_oN, ap_oS, ap_setIx, ap_augIx, ap_lst, R.bind_ok, R.bind_exc, R.bind_stuck, R.out_ok, R.out_exc, R.out_stuck, Out.seq_nx, Out.seq_rt, onBO_true, onBO_false, onB_true, onB_false, endF_rt, endF_nx, dEq_ii, dNe_ii, dLt_ii, dGt_ii, dLe_ii, dGe_ii, dAdd_ii, bInt_i, List.getElem?_cons_zero, List.getElem?_cons_succ, List.set_cons_zero, List.set_cons_succ, List.map_cons, List.map_nil, List.length_cons, List.length_nil, List.replicate, List.cons_append, List.nil_append, Nat.reduceAdd, Nat.reduceSub, rr, e9, len_any]
    have s2 : p6b (rr s t (some (.int n)) (some (.tup ((dgs n).map .int))) (some (.tup (as.map .int))) (some (badB as.length)) (some (.tup ((dgI n ++ [dgL n + 128, 0]).map .int))) a8 a9 a10 a11 a12 a13 a14) (.lst xs :: ah) = .nx (rr s t (some (.int n)) (some (.tup ((dgs n).map .int))) (some (.tup (as.map .int))) (some (badB as.length)) (some (.tup ((dgI n ++ [dgL n + 128, 0]).map .int))) a8 a9 a10 a11 a12 a13 a14) (.lst xs :: ah) := by
      unfold p6b
      rw [ap_asg, lam_bad e2, R.out_ok]
      rfl
    have e0 : cOp dGt (cBi bLen (aCons (cVar 4) aNil)) (cC (.int 1)) (rr s t (some (.int n)) (some (.tup ((dgs n).map .int))) (some (.tup (as.map .int))) (some (badB as.length)) a7 a8 a9 a10 a11 a12 a13 a14) (.lst xs :: ah) = .ok (.bl true) (.lst xs :: ah) := by
      simp only [ap_var, ap_c, ap_op, ap_nil, ap_cons, ap_bi, ap_seq, ap_if, ap_asg, ap_nm, ap_ret, ap_next, ap_drop, ap_sl, ap_oN, ap_oS, ap_setIx, ap_augIx, ap_lst, R.bind_ok, R.bind_exc, R.bind_stuck, R.out_ok, R.out_exc, R.out_stuck, Out.seq_nx, Out.seq_rt, onBO_true, onBO_false, onB_true, onB_false, endF_rt, endF_nx, dEq_ii, dNe_ii, dLt_ii, dGt_ii, dLe_ii, dGe_ii, dAdd_ii, bInt_i, List.getElem?_cons_zero, List.getElem?_cons_succ, List.set_cons_zero, List.set_cons_succ, List.map_cons, List.map_nil, List.length_cons, List.length_nil, List.replicate, List.cons_append, List.nil_append, Nat.reduceAdd, Nat.reduceSub, rr, len_any, d1]
    refine ⟨some (.tup ((dgI n ++ [dgL n + 128, 0]).map .int)), ?_⟩
    · unfold p6
      rw [ap_if, e0, R.out_ok, onBO_true, ap_seq, s1, Out.seq_nx, ap_seq, s2, Out.seq_nx, p5_run]
  · have d1 : decide ((1 : Int) < ((dgs n).length : Nat)) = false := by simp; omega
    have e0 : cOp dGt (cBi bLen (aCons (cVar 4) aNil)) (cC (.int 1)) (rr s t (some (.int n)) (some (.tup ((dgs n).map .int))) (some (.tup (as.map .int))) (some (badB as.length)) a7 a8 a9 a10 a11 a12 a13 a14) (.lst xs :: ah) = .ok (.bl false) (.lst xs :: ah) := by
      simp only [ap_var, ap_c, ap_op, ap_nil, ap_cons, ap_bi, ap_seq, ap_if, ap_asg, ap_nm, ap_ret, ap_next, ap_drop, ap_sl, ap_oN, ap_oS, ap_setIx, ap_augIx, ap_lst, R.bind_ok, R.bind_exc, R.bind_stuck, R.out_ok, R.out_exc, R.out_stuck, Out.seq_nx, Out.seq_rt, onBO_true, onBO_false, onB_true, onB_false, endF_rt, endF_nx, dEq_ii, dNe_ii, dLt_ii, dGt_ii, dLe_ii, dGe_ii, dAdd_ii, bInt_i, List.getElem?_cons_zero, List.getElem?_cons_succ, List.set_cons_zero, List.set_cons_succ, List.map_cons, List.map_nil, List.length_cons, List.length_nil, List.replicate, List.cons_append, List.nil_append, Nat.reduceAdd, Nat.reduceSub, rr, len_any, d1]
    refine ⟨a7, ?_⟩
    unfold p6
    rw [ap_if, e0, R.out_ok, onBO_false]
    rfl
theorem p7_run (hb : BagOk N xs) (hN : N < 2 ^ 50) : ∃ (os : List Int) (b14 : Option D) (ys : List D), p7 (rr s t a3 a4 a5 a6 a7 a8 a9 a10 a11 a12 a13 a14) (.lst xs :: ah) = .nx (rr s t a3 a4 a5 a6 a7 (some (.tup (os.map .int))) a9 a10 a11 a12 a13 a14) (.lst ys :: ah) ∧ os.length < 20 ∧ Byt os ∧ BagOk (N + 21) ys := by
  obtain ⟨os, ys, e1, hl, hby, hb2⟩ := dr_run (s := s) (t := t) (a3 := a3) (a4 := a4) (a5 := a5) (a6 := a6) (a7 := a7) (a8 := a8) (a9 := a9) (a10 := a10) (a11 := a11) (a12 := a12) (a13 := a13) (a14 := a14) (ah := ah) (m := 20) hb hN (by decide) (by decide)
  have e3 : bTuple [.lst (os.map .int)] (.lst ys :: ah) = .ok (.tup (os.map .int)) (.lst ys :: ah) := rfl
  refine ⟨os, none, ys, ?_, by omega, hby, hb2.mono (by omega)⟩
  unfold p7
  simp only [ap_var, ap_c, ap_op, ap_nil, ap_cons, ap_bi, ap_seq, ap_if, ap_asg, ap_nm, ap_ret, ap_next, ap_drop, ap_sl, ap_oN, ap_oS, ap_setIx, ap_augIx, ap_lst, R.bind_ok, R.bind_exc, R.bind_stuck, R.out_ok, R.out_exc, R.out_stuck, Out.seq_nx, Out.seq_rt, onBO_true, onBO_false, onB_true, onB_false, endF_rt, endF_nx, dEq_ii, dNe_ii, dLt_ii, dGt_ii, dLe_ii, dGe_ii, dAdd_ii, bInt_i, List.getElem?_cons_zero, List.getElem?_cons_succ, List.set_cons_zero, List.set_cons_succ, List.map_cons, List.map_nil, List.length_cons, List.length_nil, List.replicate, List.cons_append, List.nil_append, Nat.reduceAdd, Nat.reduceSub, e1, e3]
  rfl
theorem p8_run (hl : os.length ≤ 90) : p8 (rr s t a3 a4 a5 a6 a7 (some (.tup (os.map .int))) a9 a10 a11 a12 a13 a14) (.lst xs :: ah) = .nx (rr s t a3 a4 a5 a6 a7 (some (.tup (os.map .int))) (some (.tup ((sld os).map .int))) a10 a11 a12 a13 a14) (.lst xs :: ah) := by
  have z : 1000 ≤ sizeLine := by rw [sizeLine_eq]; decide
  obtain ⟨ah', e⟩ := law_sealed_run (xs := os) (by omega)
  have e3 : cCallP 1 F__law_sealed (aCons (cVar 8) aNil) (rr s t a3 a4 a5 a6 a7 (some (.tup (os.map .int))) a9 a10 a11 a12 a13 a14) (.lst xs :: ah) = .ok (.tup ((sld os).map .int)) (.lst xs :: ah) := callP_gen (ds := [.tup (os.map .int)]) rfl rfl (by simp only [List.all_cons, List.all_nil, calm_tup, Bool.true_and]) e (tup_plain _).1
  unfold p8
  simp only [ap_var, ap_c, ap_op, ap_nil, ap_cons, ap_bi, ap_seq, ap_if, ap_asg, ap_nm, ap_ret, ap_next, ap_drop, ap_sl, ap_oN, ap_oS, ap_setIx, ap_augIx, ap_lst, R.bind_ok, R.bind_exc, R.bind_stuck, R.out_ok, R.out_exc, R.out_stuck, Out.seq_nx, Out.seq_rt, onBO_true, onBO_false, onB_true, onB_false, endF_rt, endF_nx, dEq_ii, dNe_ii, dLt_ii, dGt_ii, dLe_ii, dGe_ii, dAdd_ii, bInt_i, List.getElem?_cons_zero, List.getElem?_cons_succ, List.set_cons_zero, List.set_cons_succ, List.map_cons, List.map_nil, List.length_cons, List.length_nil, List.replicate, List.cons_append, List.nil_append, Nat.reduceAdd, Nat.reduceSub, e3]
  rfl
theorem p9_run (hl : os.length ≤ 90) : p9 (rr s t a3 a4 a5 a6 a7 (some (.tup (os.map .int))) (some (.tup ((sld os).map .int))) a10 a11 a12 a13 a14) (.lst xs :: ah) = .nx (rr s t a3 a4 a5 a6 a7 (some (.tup (os.map .int))) (some (.tup ((sld os).map .int))) a10 a11 a12 a13 a14) (.lst xs :: ah) := by
  have z : 1000 ≤ sizeLine := by rw [sizeLine_eq]; decide
  have z3 : 3 ≤ sizeLine := by decide
  have hsl := sld_len os
  have hc : [D.tup (os.map .int)].all calmD = true := by simp only [List.all_cons, List.all_nil, calm_tup, Bool.true_and]
  have e1 : cCallP 1 F_check_of (aCons (cVar 8) aNil) (rr s t a3 a4 a5 a6 a7 (some (.tup (os.map .int))) (some (.tup ((sld os).map .int))) a10 a11 a12 a13 a14) (.lst xs :: ah) = .ok (.int (chk 1 os)) (.lst xs :: ah) := callP_gen (ds := [.tup (os.map .int)]) rfl rfl hc (check_run os).1 rfl
  have e2 : cCallP 1 F_sealed (aCons (cVar 8) aNil) (rr s t a3 a4 a5 a6 a7 (some (.tup (os.map .int))) (some (.tup ((sld os).map .int))) a10 a11 a12 a13 a14) (.lst xs :: ah) = .ok (.tup ((sld os).map .int)) (.lst xs :: ah) := callP_gen (ds := [.tup (os.map .int)]) rfl rfl hc (sealed_run (by omega)) (tup_plain _).1
  have e3 : cCallP 1 F_is_sealed (aCons (cVar 9) aNil) (rr s t a3 a4 a5 a6 a7 (some (.tup (os.map .int))) (some (.tup ((sld os).map .int))) a10 a11 a12 a13 a14) (.lst xs :: ah) = .ok (.bl true) (.lst xs :: ah) := by
    have := is_sealed_run (xs := sld os) (by omega)
    rw [isSl_sld] at this
    exact callP_gen (ds := [.tup ((sld os).map .int)]) rfl rfl (by simp only [List.all_cons, List.all_nil, calm_tup, Bool.true_and]) this rfl
  have e4 : cCallP 1 F__law_check (aCons (cVar 8) aNil) (rr s t a3 a4 a5 a6 a7 (some (.tup (os.map .int))) (some (.tup ((sld os).map .int))) a10 a11 a12 a13 a14) (.lst xs :: ah) = .ok (.int (chk 1 os)) (.lst xs :: ah) := callP_gen (ds := [.tup (os.map .int)]) rfl rfl hc (check_run os).2.1 rfl
  have hd : D.dep (.lst [.int (chk 1 os), .tup ((sld os).map .int), .bl true]) ≤ 64 := by
    simp only [D.dep, D.deps, deps_ints]; decide
  have hs : D.sz (.lst [.int (chk 1 os), .tup ((sld os).map .int), .bl true]) ≤ sizeLine := by
    simp only [D.sz, D.szs, szs_ints, sld_len]; omega
  refine if_not_ok (alike_call alike_eq (d := .lst [.int (chk 1 os), .tup ((sld os).map .int), .bl true]) ?_ (by simp [D.nr, D.nrs, nrs_ints]) hd hs)
  unfold rr at e1 e2 e3 e4 ⊢
  simp only [ap_var, ap_c, ap_op, ap_nil, ap_cons, ap_bi, ap_seq, ap_if, ap_asg, ap_nm, ap_ret, ap_next, ap_drop, ap_sl, ap_oN, ap_oS, ap_setIx, ap_augIx, ap_lst, R.bind_ok, R.bind_exc, R.bind_stuck, R.out_ok, R.out_exc, R.out_stuck, Out.seq_nx, Out.seq_rt, onBO_true, onBO_false, onB_true, onB_false, endF_rt, endF_nx, dEq_ii, dNe_ii, dLt_ii, dGt_ii, dLe_ii, dGe_ii, dAdd_ii, bInt_i, List.getElem?_cons_zero, List.getElem?_cons_succ, List.set_cons_zero, List.set_cons_succ, List.map_cons, List.map_nil, List.length_cons, List.length_nil, List.replicate, List.cons_append, List.nil_append, Nat.reduceAdd, Nat.reduceSub, e1, e2, e3, e4, if_pos z3]
theorem p10_run {ws : List Int} (hb : BagOk N xs) (hN : N < 2 ^ 50) (hw : 0 < ws.length) (hwl : ws.length < 1000) : ∃ (a k : Nat) (ys : List D), p10 (rr s t a3 a4 a5 a6 a7 a8 (some (.tup (ws.map .int))) a10 a11 a12 a13 a14) (.lst xs :: ah) = .nx (rr s t a3 a4 a5 a6 a7 a8 (some (.tup (ws.map .int))) (some (.int a)) (some (.int (1 + k))) a12 a13 a14) (.lst ys :: ah) ∧ a < ws.length ∧ k < 3 ∧ BagOk (N + 2) ys := by
  obtain ⟨v, x1, e1, c1, d1, hb1⟩ := drawH take_eq (ga := aCons (cVar 1) (aCons (cBi bLen (aCons (cVar 9) aNil)) aNil)) (ρ := rr s t a3 a4 a5 a6 a7 a8 (some (.tup (ws.map .int))) a10 a11 a12 a13 a14) (many := (ws.length : Nat)) (xs := xs) (xs1 := xs) (ah := ah) (ah1 := ah) (by simp only [ap_var, ap_c, ap_op, ap_nil, ap_cons, ap_bi, ap_seq, ap_if, ap_asg, ap_nm, ap_ret, ap_next, ap_drop, ap_sl, ap_oN, ap_oS, ap_setIx, ap_augIx, ap_lst, R.bind_ok, R.bind_exc, R.bind_stuck, R.out_ok, R.out_exc, R.out_stuck, Out.seq_nx, Out.seq_rt, onBO_true, onBO_false, onB_true, onB_false, endF_rt, endF_nx, dEq_ii, dNe_ii, dLt_ii, dGt_ii, dLe_ii, dGe_ii, dAdd_ii, bInt_i, List.getElem?_cons_zero, List.getElem?_cons_succ, List.set_cons_zero, List.set_cons_succ, List.map_cons, List.map_nil, List.length_cons, List.length_nil, List.replicate, List.cons_append, List.nil_append, Nat.reduceAdd, Nat.reduceSub, rr, len_any]) hb (by omega) (by omega) (by omega)
  obtain ⟨w, x2, e2, c2, d2, hb2⟩ := drawH take_eq (ga := aCons (cVar 1) (aCons (cC (.int 3)) aNil)) (ρ := rr s t a3 a4 a5 a6 a7 a8 (some (.tup (ws.map .int))) a10 a11 a12 a13 a14) (many := 3) (xs := x1) (xs1 := x1) (ah := ah) (ah1 := ah) rfl hb1 (by omega) (by decide) (by decide)
  obtain ⟨a, rfl⟩ : ∃ a : Nat, v = a := ⟨v.toNat, by omega⟩
  obtain ⟨k, rfl⟩ : ∃ k : Nat, w = k := ⟨w.toNat, by omega⟩
  refine ⟨a, k, x2, ?_, by omega, by omega, hb2.mono (by omega)⟩
  unfold p10 sPar
  simp only [ap_var, ap_c, ap_op, ap_nil, ap_cons, ap_bi, ap_seq, ap_if, ap_asg, ap_nm, ap_ret, ap_next, ap_drop, ap_sl, ap_oN, ap_oS, ap_setIx, ap_augIx, ap_lst, R.bind_ok, R.bind_exc, R.bind_stuck, R.out_ok, R.out_exc, R.out_stuck, Out.seq_nx, Out.seq_rt, onBO_true, onBO_false, onB_true, onB_false, endF_rt, endF_nx, dEq_ii, dNe_ii, dLt_ii, dGt_ii, dLe_ii, dGe_ii, dAdd_ii, bInt_i, List.getElem?_cons_zero, List.getElem?_cons_succ, List.set_cons_zero, List.set_cons_succ, List.map_cons, List.map_nil, List.length_cons, List.length_nil, List.replicate, List.cons_append, List.nil_append, Nat.reduceAdd, Nat.reduceSub, e1, e2]
  rfl
end
end Lw

set_option Elab.async false
set_option linter.all false
set_option maxRecDepth 100000
set_option maxHeartbeats 4000000
/-! K38D: the end of k38's plain law. -/
namespace Lw
open PySem L2 Qd Pl
section
variable {s t a3 a4 a5 a6 a7 a8 a9 a10 a11 a12 a13 a14 : Option D} {xs : List D} {ah : List AO} {os : List Int} {n : Nat} {N : Int}
theorem look_at {cs : List D} : look (.lst xs :: (ah ++ [.lst cs])) (.ref (ah.length + 1)) = .lst cs := by
  have e : (AO.lst xs :: (ah ++ [AO.lst cs]))[ah.length + 1]? = some (.lst cs) := by
    rw [List.getElem?_cons_succ, List.getElem?_append_right (Nat.le_refl _), Nat.sub_self]; rfl
  show (match (AO.lst xs :: (ah ++ [AO.lst cs]))[ah.length + 1]? with | some (.lst ds) => D.lst ds | _ => .ref (ah.length + 1)) = _
  rw [e]
theorem setIx_at {cs : List D} {d : D} {p : Nat} (hp : p < cs.length) : setIx (.ref (ah.length + 1)) (.int p) d (.lst xs :: (ah ++ [.lst cs])) = .ok () (.lst xs :: (ah ++ [.lst (cs.set p d)])) := by
  have e : (AO.lst xs :: (ah ++ [AO.lst cs]))[ah.length + 1]? = some (.lst cs) := by
    rw [List.getElem?_cons_succ, List.getElem?_append_right (Nat.le_refl _), Nat.sub_self]; rfl
  have e2 : ixN cs.length (p : Int) = some p := by
    unfold ixN
    rw [if_pos (by omega), if_pos (by omega), Int.toNat_natCast]
  have e3 : (AO.lst xs :: (ah ++ [AO.lst cs])).set (ah.length + 1) (.lst (cs.set p d)) = .lst xs :: (ah ++ [.lst (cs.set p d)]) := by
    rw [List.set_cons_succ, List.set_append_right _ _ (Nat.le_refl _), Nat.sub_self]; rfl
  unfold setIx setIx.onLst'
  simp only [e, e2, e3]
theorem spo_at {ws mid : List Int} {a : Nat} (h : a + mid.length < ws.length) : spo ws mid a = (ws.take a ++ mid) ++ ws[a + mid.length] :: ws.drop (a + mid.length + 1) := by
  unfold spo
  rw [List.drop_eq_getElem_cons h]
theorem p11_run {ws : List Int} : p11 (rr s t a3 a4 a5 a6 a7 a8 (some (.tup (ws.map .int))) a10 a11 a12 a13 a14) (.lst xs :: ah) = .nx (rr s t a3 a4 a5 a6 a7 a8 (some (.tup (ws.map .int))) a10 a11 (some (.ref (ah.length + 1))) a13 a14) (.lst xs :: (ah ++ [.lst (ws.map .int)])) := by
  have e : bListM [.tup (ws.map .int)] (.lst xs :: ah) = .ok (.ref (ah.length + 1)) (.lst xs :: (ah ++ [.lst (ws.map .int)])) := rfl
  unfold p11
  simp only [ap_var, ap_c, ap_op, ap_nil, ap_cons, ap_bi, ap_seq, ap_if, ap_asg, ap_nm, ap_ret, ap_next, ap_drop, ap_sl, ap_oN, ap_oS, ap_setIx, ap_augIx, ap_lst, R.bind_ok, R.bind_exc, R.bind_stuck, R.out_ok, R.out_exc, R.out_stuck, Out.seq_nx, Out.seq_rt, onBO_true, onBO_false, onB_true, onB_false, endF_rt, endF_nx, dEq_ii, dNe_ii, dLt_ii, dGt_ii, dLe_ii, dGe_ii, dAdd_ii, bInt_i, List.getElem?_cons_zero, List.getElem?_cons_succ, List.set_cons_zero, List.set_cons_succ, List.map_cons, List.map_nil, List.length_cons, List.length_nil, List.replicate, List.cons_append, List.nil_append, Nat.reduceAdd, Nat.reduceSub, rr, e]
theorem b12_run {ws mid : List Int} {a : Nat} (hb : BagOk N xs) (hN : N < 2 ^ 50) (hw : Byt ws) (h : a + mid.length < ws.length) :
    ∃ (x : Int) (ys : List D), b12 (rr s t a3 a4 a5 a6 a7 a8 a9 a10 a11 (some (.ref (ah.length + 1))) (some (.int (a + mid.length : Nat))) a14) (.lst xs :: (ah ++ [.lst ((spo ws mid a).map .int)])) = .nx (rr s t a3 a4 a5 a6 a7 a8 a9 a10 a11 (some (.ref (ah.length + 1))) (some (.int (a + mid.length : Nat))) a14) (.lst ys :: (ah ++ [.lst ((spo ws (mid ++ [x]) a).map .int)])) ∧ 0 ≤ x ∧ x < 256 ∧ x ≠ ws[a + mid.length] ∧ BagOk (N + 1) ys := by
  have hpl : (ws.take a ++ mid).length = a + mid.length := by rw [List.length_append, List.length_take]; omega
  have hwb := hw ws[a + mid.length] (List.getElem_mem h)
  obtain ⟨u, ys, e1, c1, d1, hb1⟩ := drawH take_eq (ga := aCons (cVar 1) (aCons (cC (.int 255)) aNil)) (ρ := rr s t a3 a4 a5 a6 a7 a8 a9 a10 a11 (some (.ref (ah.length + 1))) (some (.int (a + mid.length : Nat))) a14) (many := 255) (xs := xs) (xs1 := xs) (ah := ah ++ [.lst ((spo ws mid a).map .int)]) (ah1 := ah ++ [.lst ((spo ws mid a).map .int)]) rfl hb (by omega) (by decide) (by decide)
  have e2 : dIx (.ref (ah.length + 1)) (.int (a + mid.length : Nat)) (.lst xs :: (ah ++ [.lst ((spo ws mid a).map .int)])) = .ok (.int ws[a + mid.length]) (.lst xs :: (ah ++ [.lst ((spo ws mid a).map .int)])) := by
    unfold dIx
    rw [look_at]
    show ret? (atI ((spo ws mid a).map D.int) ((a + mid.length : Nat) : Int)) _ = _
    rw [spo_at h, List.map_append (l₁ := ws.take a ++ mid), List.map_cons, atI_app (by rw [List.length_map, hpl])]; rfl
  have e3 : setIx (.ref (ah.length + 1)) (.int (a + mid.length : Nat)) (.int ((ws[a + mid.length] + 1 + u) % 256)) (.lst ys :: (ah ++ [.lst ((spo ws mid a).map .int)])) = .ok () (.lst ys :: (ah ++ [.lst ((spo ws (mid ++ [(ws[a + mid.length] + 1 + u) % 256]) a).map .int)])) := by
    have hq : ((spo ws mid a).map D.int).set (a + mid.length) (.int ((ws[a + mid.length] + 1 + u) % 256)) = (spo ws (mid ++ [(ws[a + mid.length] + 1 + u) % 256]) a).map D.int := by
      have q1 : spo ws (mid ++ [(ws[a + mid.length] + 1 + u) % 256]) a = (ws.take a ++ mid) ++ ((ws[a + mid.length] + 1 + u) % 256) :: ws.drop (a + mid.length + 1) := by
        unfold spo
        rw [List.length_append]
        simp only [List.append_assoc, List.cons_append, List.nil_append, List.length_cons, List.length_nil, Nat.zero_add, Nat.add_assoc]
      rw [q1, spo_at h, List.map_append (l₁ := ws.take a ++ mid), List.map_append (l₁ := ws.take a ++ mid), List.set_append_right _ _ (by rw [List.length_map, hpl]; exact Nat.le_refl _), List.length_map, hpl, Nat.sub_self]
      rfl
    rw [setIx_at (by rw [List.length_map, spo_at h, List.length_append, List.length_cons, hpl]; omega), hq]
  refine ⟨(ws[a + mid.length] + 1 + u) % 256, ys, ?_, by omega, by omega, by omega, hb1⟩
  unfold rr at e1 ⊢
  unfold b12
  simp only [ap_var, ap_c, ap_op, ap_nil, ap_cons, ap_bi, ap_seq, ap_if, ap_asg, ap_nm, ap_ret, ap_next, ap_drop, ap_sl, ap_oN, ap_oS, ap_setIx, ap_augIx, ap_lst, R.bind_ok, R.bind_exc, R.bind_stuck, R.out_ok, R.out_exc, R.out_stuck, Out.seq_nx, Out.seq_rt, onBO_true, onBO_false, onB_true, onB_false, endF_rt, endF_nx, dEq_ii, dNe_ii, dLt_ii, dGt_ii, dLe_ii, dGe_ii, dAdd_ii, bInt_i, List.getElem?_cons_zero, List.getElem?_cons_succ, List.set_cons_zero, List.set_cons_succ, List.map_cons, List.map_nil, List.length_cons, List.length_nil, List.replicate, List.cons_append, List.nil_append, Nat.reduceAdd, Nat.reduceSub, e2, e1, mod_ok (b := 256) (by decide), e3]
theorem p12_run {ws : List Int} {a k : Nat} (hb : BagOk N xs) (hN : N < 2 ^ 45) (hw : Byt ws) (hwl : ws.length < 1000) (ha : a < ws.length) (hk : k < 3) :
    ∃ (mid : List Int) (b13 : Option D) (ys : List D), p12 (rr s t a3 a4 a5 a6 a7 a8 (some (.tup (ws.map .int))) (some (.int a)) (some (.int (1 + k))) (some (.ref (ah.length + 1))) a13 a14) (.lst xs :: (ah ++ [.lst (ws.map .int)])) = .nx (rr s t a3 a4 a5 a6 a7 a8 (some (.tup (ws.map .int))) (some (.int a)) (some (.int (1 + k))) (some (.ref (ah.length + 1))) b13 a14) (.lst ys :: (ah ++ [.lst ((spo ws mid a).map .int)])) ∧
      1 ≤ mid.length ∧ mid.length ≤ 3 ∧ a + mid.length ≤ ws.length ∧ Byt mid ∧ (∀ x, mid[0]? = some x → ws[a]? ≠ some x) ∧ BagOk (N + 3) ys := by
  obtain ⟨m, hm⟩ : ∃ m : Nat, m = (if ws.length < a + (1 + k) then ws.length else a + (1 + k)) - a := ⟨_, rfl⟩
  have hm1 : 1 ≤ m ∧ m ≤ 3 ∧ a + m ≤ ws.length := by
    split at hm <;> omega
  have hmin : (if ((ws.length : Nat) : Int) < (a : Int) + (1 + (k : Int)) then ((ws.length : Nat) : Int) else (a : Int) + (1 + (k : Int))) = ((a + m : Nat) : Int) := by
    split at hm <;> rename_i hq
    · rw [if_pos (by omega)]; omega
    · rw [if_neg (by omega)]; omega
  have hit : iRange2 (aCons (cVar 10) (aCons (cBi bMin2 (aCons (cOp dAdd (cVar 10) (cVar 11)) (aCons (cBi bLen (aCons (cVar 9) aNil)) aNil))) aNil)) (rr s t a3 a4 a5 a6 a7 a8 (some (.tup (ws.map .int))) (some (.int a)) (some (.int (1 + k))) (some (.ref (ah.length + 1))) a13 a14) (.lst xs :: (ah ++ [.lst (ws.map .int)])) = .ok ⟨rng a m, []⟩ (.lst xs :: (ah ++ [.lst (ws.map .int)])) := by
    have := range2_ok (g := aCons (cVar 10) (aCons (cBi bMin2 (aCons (cOp dAdd (cVar 10) (cVar 11)) (aCons (cBi bLen (aCons (cVar 9) aNil)) aNil))) aNil)) (ρ := rr s t a3 a4 a5 a6 a7 a8 (some (.tup (ws.map .int))) (some (.int a)) (some (.int (1 + k))) (some (.ref (ah.length + 1))) a13 a14) (ah := .lst xs :: (ah ++ [.lst (ws.map .int)])) (ah1 := .lst xs :: (ah ++ [.lst (ws.map .int)])) (i := a) (j := ((a + m : Nat) : Int)) (by simp only [ap_var, ap_c, ap_op, ap_nil, ap_cons, ap_bi, ap_seq, ap_if, ap_asg, ap_nm, ap_ret, ap_next, ap_drop, ap_sl, ap_oN, ap_oS, ap_setIx, ap_augIx, ap_lst, R.bind_ok, R.bind_exc, R.bind_stuck, R.out_ok, R.out_exc, R.out_stuck, Out.seq_nx, Out.seq_rt, onBO_true, onBO_false, onB_true, onB_false, endF_rt, endF_nx, dEq_ii, dNe_ii, dLt_ii, dGt_ii, dLe_ii, dGe_ii, dAdd_ii, bInt_i, List.getElem?_cons_zero, List.getElem?_cons_succ, List.set_cons_zero, List.set_cons_succ, List.map_cons, List.map_nil, List.length_cons, List.length_nil, List.replicate, List.cons_append, List.nil_append, Nat.reduceAdd, Nat.reduceSub, rr, len_any, min_run, hmin]) (by omega) (by omega) (by omega) (by omega)
    rw [this]
    have : (((a + m : Nat) : Int) - (a : Int)).toNat = m := by omega
    rw [this]
  obtain ⟨ρ', h', e, ⟨mid, b13, ys, rfl, rfl, hml, hmb, hm0, hb2⟩⟩ := forL_all (g := gNm 13) (b := b12) (items := rng a m) (ρ := rr s t a3 a4 a5 a6 a7 a8 (some (.tup (ws.map .int))) (some (.int a)) (some (.int (1 + k))) (some (.ref (ah.length + 1))) a13 a14) (ah := .lst xs :: (ah ++ [.lst (ws.map .int)]))
    (P := fun i ρ h => ∃ (mid : List Int) (b13 : Option D) (ys : List D), ρ = rr s t a3 a4 a5 a6 a7 a8 (some (.tup (ws.map .int))) (some (.int a)) (some (.int (1 + k))) (some (.ref (ah.length + 1))) b13 a14 ∧ h = .lst ys :: (ah ++ [.lst ((spo ws mid a).map .int)]) ∧ mid.length = i ∧ Byt mid ∧ (∀ x, mid[0]? = some x → ws[a]? ≠ some x) ∧ BagOk (N + i) ys)
    ⟨[], a13, xs, rfl, by
      have : spo ws [] a = ws := by
        unfold spo
        rw [List.append_nil]
        exact List.take_append_drop _ _
      rw [this], rfl, (fun x hx => by cases hx), (fun x hx => by cases hx), hb.mono (by omega)⟩ (fun i d ρ h hd hP => by
      obtain ⟨mid, b13, ys, rfl, rfl, hml, hmb, hm0, hb2⟩ := hP
      obtain ⟨hi, rfl⟩ := rng_get hd
      have hi2 : ((a : Int) + (i : Int)) = ((a + mid.length : Nat) : Int) := by omega
      obtain ⟨x, zs, e, x0, x1, xne, hb3⟩ := b12_run (s := s) (t := t) (a3 := a3) (a4 := a4) (a5 := a5) (a6 := a6) (a7 := a7) (a8 := a8) (a9 := some (.tup (ws.map .int))) (a10 := some (.int a)) (a11 := some (.int (1 + k))) (a14 := a14) (ah := ah) (mid := mid) (a := a) hb2 (by omega) hw (by omega)
      refine ⟨rr s t a3 a4 a5 a6 a7 a8 (some (.tup (ws.map .int))) (some (.int a)) (some (.int (1 + k))) (some (.ref (ah.length + 1))) (some (.int (a + mid.length : Nat))) a14, _, _, by rw [hi2]; rfl, e, mid ++ [x], some (.int (a + mid.length : Nat)), zs, rfl, rfl, by rw [List.length_append, hml]; rfl, hmb.app (fun y hy => by simp only [List.mem_singleton] at hy; omega), fun y hy => ?_, hb3.mono (by omega)⟩
      cases mid with
      | nil =>
        have : x = y := by simpa using hy
        rw [← this]
        intro q
        have h2 : a < ws.length := ha
        rw [List.getElem?_eq_getElem h2] at q
        exact xne (by simpa using (Option.some.inj q).symm)
      | cons z mid => exact hm0 y (by simpa using hy))
  rw [rng_len] at hml hb2
  refine ⟨mid, b13, ys, ?_, by omega, by omega, by omega, hmb, hm0, hb2.mono (by omega)⟩
  unfold p12 sFor
  rw [hit, R.out_ok]
  exact e
theorem p13_run {cs : List Int} (hl : cs.length ≤ 1000) (h : isSl cs = false) : p13 (rr s t a3 a4 a5 a6 a7 a8 a9 a10 a11 (some (.ref (ah.length + 1))) a13 a14) (.lst xs :: (ah ++ [.lst (cs.map .int)])) = .nx (rr s t a3 a4 a5 a6 a7 a8 a9 a10 a11 (some (.ref (ah.length + 1))) a13 a14) (.lst xs :: (ah ++ [.lst (cs.map .int)])) := by
  have e1 : bTuple [.ref (ah.length + 1)] (.lst xs :: (ah ++ [.lst (cs.map .int)])) = .ok (.tup (cs.map .int)) (.lst xs :: (ah ++ [.lst (cs.map .int)])) := by
    unfold bTuple
    simp only [look_at]
  have hr := is_sealed_run hl
  rw [h] at hr
  have e2 : cCallP 1 F_is_sealed (aCons (cBi bTuple (aCons (cVar 12) aNil)) aNil) (rr s t a3 a4 a5 a6 a7 a8 a9 a10 a11 (some (.ref (ah.length + 1))) a13 a14) (.lst xs :: (ah ++ [.lst (cs.map .int)])) = .ok (.bl false) (.lst xs :: (ah ++ [.lst (cs.map .int)])) := by
    refine callP_gen (ds := [.tup (cs.map .int)]) ?_ rfl (by simp only [List.all_cons, List.all_nil, calm_tup, Bool.true_and]) hr rfl
    simp only [ap_var, ap_c, ap_op, ap_nil, ap_cons, ap_bi, ap_seq, ap_if, ap_asg, ap_nm, ap_ret, ap_next, ap_drop, ap_sl, ap_oN, ap_oS, ap_setIx, ap_augIx, ap_lst, R.bind_ok, R.bind_exc, R.bind_stuck, R.out_ok, R.out_exc, R.out_stuck, Out.seq_nx, Out.seq_rt, onBO_true, onBO_false, onB_true, onB_false, endF_rt, endF_nx, dEq_ii, dNe_ii, dLt_ii, dGt_ii, dLe_ii, dGe_ii, dAdd_ii, bInt_i, List.getElem?_cons_zero, List.getElem?_cons_succ, List.set_cons_zero, List.set_cons_succ, List.map_cons, List.map_nil, List.length_cons, List.length_nil, List.replicate, List.cons_append, List.nil_append, Nat.reduceAdd, Nat.reduceSub, rr, e1]
  refine if_ok ?_
  simp only [ap_var, ap_c, ap_op, ap_nil, ap_cons, ap_bi, ap_seq, ap_if, ap_asg, ap_nm, ap_ret, ap_next, ap_drop, ap_sl, ap_oN, ap_oS, ap_setIx, ap_augIx, ap_lst, R.bind_ok, R.bind_exc, R.bind_stuck, R.out_ok, R.out_exc, R.out_stuck, Out.seq_nx, Out.seq_rt, onBO_true, onBO_false, onB_true, onB_false, endF_rt, endF_nx, dEq_ii, dNe_ii, dLt_ii, dGt_ii, dLe_ii, dGe_ii, dAdd_ii, bInt_i, List.getElem?_cons_zero, List.getElem?_cons_succ, List.set_cons_zero, List.set_cons_succ, List.map_cons, List.map_nil, List.length_cons, List.length_nil, List.replicate, List.cons_append, List.nil_append, Nat.reduceAdd, Nat.reduceSub, e2]
  rfl
end
theorem num_len {n : Nat} (h : (n : Int) < 10 ^ 60 + 1000000000) : (dgI n).length ≤ 29 := by
  refine dgI_len 29 n (Nat.lt_of_lt_of_le (m := 10 ^ 60 + 1000000000) (by omega) ?_)
  decide +kernel
theorem not_sealed {os mid : List Int} {a : Nat} (ho : Byt os) (hm : Byt mid) (h1 : 1 ≤ mid.length) (h3 : mid.length ≤ 3) (ha : a + mid.length ≤ (sld os).length) (h0 : ∀ x, mid[0]? = some x → (sld os)[a]? ≠ some x) : isSl (spo (sld os) mid a) = false := by
  cases hq : isSl (spo (sld os) mid a) with
  | false => rfl
  | true =>
    exfalso
    have e := spoilt_met ho hm h3 h1 ha hq
    have e2 := congrArg (fun l => l[a]?) e
    have hl : ((sld os).take a).length = a := by rw [List.length_take]; omega
    have e3 : (spo (sld os) mid a)[a]? = mid[0]? := by
      unfold spo
      rw [List.append_assoc, List.getElem?_append_right (by omega), hl, Nat.sub_self, List.getElem?_append_left (by omega)]
    have e2 : (spo (sld os) mid a)[a]? = (sld os)[a]? := e2
    rw [e3] at e2
    cases mid with
    | nil => simp at h1
    | cons x mid => exact h0 x rfl (by rw [← e2]; rfl)
/-- a turn -/
theorem turn_run {N : Int} {xs : List D} {ah : List AO} {s t a3 a4 a5 a6 a7 a8 a9 a10 a11 a12 a13 a14 : Option D} (hb : BagOk N xs) (hN : N < 2 ^ 40) :
    ∃ b3 b4 b5 b6 b7 b8 b9 b10 b11 b12 b13 b14 ys bh, pB (rr s t a3 a4 a5 a6 a7 a8 a9 a10 a11 a12 a13 a14) (.lst xs :: ah) = .nx (rr s t b3 b4 b5 b6 b7 b8 b9 b10 b11 b12 b13 b14) (.lst ys :: bh) ∧ BagOk (N + 100) ys := by
  have z : 1000 ≤ sizeLine := by rw [sizeLine_eq]; decide
  obtain ⟨n, x1, s1, hn, hb1⟩ := p1_run (s := s) (t := t) (a3 := a3) (a4 := a4) (a5 := a5) (a6 := a6) (a7 := a7) (a8 := a8) (a9 := a9) (a10 := a10) (a11 := a11) (a12 := a12) (a13 := a13) (a14 := a14) (ah := ah) hb (by omega)
  have hd := num_len hn
  obtain ⟨as, x2, s2, hal, hay, hb2⟩ := p2_run (s := s) (t := t) (n := n) (a4 := a4) (a5 := a5) (a6 := a6) (a7 := a7) (a8 := a8) (a9 := a9) (a10 := a10) (a11 := a11) (a12 := a12) (a13 := a13) (a14 := a14) (ah := ah) hb1 (by omega) (by omega)
  obtain ⟨b7, s6⟩ := p6_run (s := s) (t := t) (n := n) (as := as) (a7 := a7) (a8 := a8) (a9 := a9) (a10 := a10) (a11 := a11) (a12 := a12) (a13 := a13) (a14 := a14) (xs := x2) (ah := ah) hal (by omega)
  obtain ⟨os, b14, x3, s7, hol, hoy, hb3⟩ := p7_run (s := s) (t := t) (a3 := some (.int n)) (a4 := some (.tup ((dgs n).map .int))) (a5 := some (.tup (as.map .int))) (a6 := some (badB as.length)) (a7 := b7) (a8 := a8) (a9 := a9) (a10 := a10) (a11 := a11) (a12 := a12) (a13 := a13) (a14 := a14) (ah := ah) hb2 (by omega)
  have hsl := sld_len os
  obtain ⟨a, k, x4, s10, ha, hk, hb4⟩ := p10_run (s := s) (t := t) (a3 := some (.int n)) (a4 := some (.tup ((dgs n).map .int))) (a5 := some (.tup (as.map .int))) (a6 := some (badB as.length)) (a7 := b7) (a8 := some (.tup (os.map .int))) (a10 := a10) (a11 := a11) (a12 := a12) (a13 := a13) (a14 := a14) (ah := ah) (ws := sld os) hb3 (by omega) (by omega) (by omega)
  obtain ⟨mid, b13, x5, s12, m1, m3, mp, hm, hm0, hb5⟩ := p12_run (s := s) (t := t) (a3 := some (.int n)) (a4 := some (.tup ((dgs n).map .int))) (a5 := some (.tup (as.map .int))) (a6 := some (badB as.length)) (a7 := b7) (a8 := some (.tup (os.map .int))) (a13 := a13) (a14 := a14) (ah := ah) (ws := sld os) hb4 (by omega) (sld_byt hoy) (by omega) ha hk
  have hns := not_sealed hoy hm m1 m3 mp hm0
  have hspl : (spo (sld os) mid a).length ≤ 1000 := by
    unfold spo
    rw [List.length_append, List.length_append, List.length_take, List.length_drop]
    omega
  refine ⟨some (.int n), some (.tup ((dgs n).map .int)), some (.tup (as.map .int)), some (badB as.length), b7, some (.tup (os.map .int)), some (.tup ((sld os).map .int)), some (.int a), some (.int (1 + k)), some (.ref (ah.length + 1)), b13, a14, x5, ah ++ [.lst ((spo (sld os) mid a).map .int)], ?_, hb5.mono (by omega)⟩
  unfold pB
  rw [ap_seq, s1, Out.seq_nx, ap_seq, s2, Out.seq_nx, ap_seq, p3_run hay hal (by omega), Out.seq_nx, ap_seq, p4_run hal (by omega), Out.seq_nx, ap_seq, p5_run, Out.seq_nx, ap_seq, s6, Out.seq_nx, ap_seq, s7, Out.seq_nx,
    ap_seq, p8_run (by omega), Out.seq_nx, ap_seq, p9_run (by omega), Out.seq_nx, ap_seq, s10, Out.seq_nx, ap_seq, p11_run, Out.seq_nx, ap_seq, s12, Out.seq_nx, p13_run hspl hns]
theorem law_true (ns : List Int) (h : ns.length ≤ 63) : ∃ ah, F_law [.scr ns] [] = .ok (.bl true) ah := by
  obtain ⟨xs, e0, hb⟩ := bag_run h
  have c0 : cCallN 1 F__law_bag (aCons (cVar 0) aNil) [some (.scr ns), none, none, none, none, none, none, none, none, none, none, none, none, none, none] [] = .ok (.ref 0) [.lst xs] := by
    unfold cCallN
    have hg : (aCons (cVar 0) aNil) [some (.scr ns), none, none, none, none, none, none, none, none, none, none, none, none, none, none] [] = .ok [.scr ns] [] := rfl
    rw [hg, R.bind_ok, if_pos (show [D.scr ns].length = 1 from rfl), snaps_calm (show [D.scr ns].all calmD = true from rfl)]
    show newR [] _ (F__law_bag [.scr ns] []) = _
    rw [bag_eq, e0]
    show (if outsOk _ xs = true then R.ok (D.ref 0) ([] ++ [AO.lst xs]) else R.stuck) = _
    have : outsOk ([D.scr ns].all calmD) xs = true := hb.nrs
    rw [if_pos this]; rfl
  obtain ⟨ρ', ah', e1, hP⟩ := forL_all (g := gNm 2) (b := pB) (items := rng 0 9) (ρ := rr (some (.scr ns)) none none none none none none none none none none none none none) (ah := [.lst xs])
    (P := fun i ρ h => ∃ (t b3 b4 b5 b6 b7 b8 b9 b10 b11 b12 b13 b14 : Option D) (ys : List D) (bh : List AO), ρ = rr (some (.scr ns)) t b3 b4 b5 b6 b7 b8 b9 b10 b11 b12 b13 b14 ∧ h = .lst ys :: bh ∧ BagOk (100 * i) ys) ⟨none, none, none, none, none, none, none, none, none, none, none, none, none, xs, [], rfl, rfl, hb.mono (by omega)⟩ (fun i d ρ h hd hP => by
      obtain ⟨t, b3, b4, b5, b6, b7, b8, b9, b10, b11, b12, b13, b14, ys, bh, rfl, rfl, hb⟩ := hP
      have hi := (rng_get hd).1
      obtain ⟨c3, c4, c5, c6, c7, c8, c9, c10, c11, c12, c13, c14, zs, ch, e, hb2⟩ := turn_run (s := some (.scr ns)) (t := some d) (a3 := b3) (a4 := b4) (a5 := b5) (a6 := b6) (a7 := b7) (a8 := b8) (a9 := b9) (a10 := b10) (a11 := b11) (a12 := b12) (a13 := b13) (a14 := b14) (ah := bh) hb (by omega)
      exact ⟨_, _, _, rfl, e, some d, c3, c4, c5, c6, c7, c8, c9, c10, c11, c12, c13, c14, zs, ch, rfl, rfl, hb2.mono (by omega)⟩)
  refine ⟨ah', ?_⟩
  have eI : iRange1 (aCons (cC (.int 9)) aNil) (rr (some (.scr ns)) none none none none none none none none none none none none none) [.lst xs] = .ok ⟨rng 0 9, []⟩ [.lst xs] := range1_run (j := 9) rfl (by decide) (by decide)
  have e2 : sFor (iRange1 (aCons (cC (.int 9)) aNil)) (gNm 2) pB (rr (some (.scr ns)) none none none none none none none none none none none none none) [.lst xs] = .nx ρ' ah' := by
    unfold sFor
    rw [eI, R.out_ok]
    exact e1
  have e3 : F_law [.scr ns] [] = endF (s_law [some (.scr ns), none, none, none, none, none, none, none, none, none, none, none, none, none, none] []) := rfl
  unfold rr at e2
  rw [e3, law_shape]
  simp only [ap_var, ap_c, ap_op, ap_nil, ap_cons, ap_bi, ap_seq, ap_if, ap_asg, ap_nm, ap_ret, ap_next, ap_drop, ap_sl, ap_oN, ap_oS, ap_setIx, ap_augIx, ap_lst, R.bind_ok, R.bind_exc, R.bind_stuck, R.out_ok, R.out_exc, R.out_stuck, Out.seq_nx, Out.seq_rt, onBO_true, onBO_false, onB_true, onB_false, endF_rt, endF_nx, dEq_ii, dNe_ii, dLt_ii, dGt_ii, dLe_ii, dGe_ii, dAdd_ii, bInt_i, List.getElem?_cons_zero, List.getElem?_cons_succ, List.set_cons_zero, List.set_cons_succ, List.map_cons, List.map_nil, List.length_cons, List.length_nil, List.replicate, List.cons_append, List.nil_append, Nat.reduceAdd, Nat.reduceSub, c0, e2]
end Lw

set_option Elab.async false
set_option linter.all false
set_option maxRecDepth 100000
set_option maxHeartbeats 4000000
namespace Lw
open PySem PySem.Spec L2 Qd
def topS (i : Nat) : Stmt := PySem.Challenge.pw_counterkeep_k38_octets_of_integers_and_c.main.body.getD i (.Pass ⟨0, 0, 0, 0⟩)
abbrev st__law_bag : Stmt := topS 18
theorem sc__law_bag : FnScope ["script", "cell"] ["script"] (defScope st__law_bag) := ⟨rfl, rfl, rfl, by decide +kernel, rfl, by decide +kernel, by decide +kernel⟩
abbrev st__law_take : Stmt := topS 19
theorem sc__law_take : FnScope ["bag", "many", "cell", "stirred", "value", "begin", "second"] ["bag", "many"] (defScope st__law_take) := ⟨rfl, rfl, rfl, by decide +kernel, rfl, by decide +kernel, by decide +kernel⟩
abbrev st__law_some : Stmt := topS 20
theorem sc__law_some : FnScope ["bag", "things"] ["bag", "things"] (defScope st__law_some) := ⟨rfl, rfl, rfl, by decide +kernel, rfl, by decide +kernel, by decide +kernel⟩
abbrev st__law_octets : Stmt := topS 25
theorem sc__law_octets : FnScope ["deed", "e"] ["deed"] (defScope st__law_octets) := ⟨rfl, rfl, rfl, by decide +kernel, rfl, by decide +kernel, by decide +kernel⟩
abbrev st__law_check : Stmt := topS 23
theorem sc__law_check : FnScope ["octets", "found", "octet"] ["octets"] (defScope st__law_check) := ⟨rfl, rfl, rfl, by decide +kernel, rfl, by decide +kernel, by decide +kernel⟩
abbrev st__law_sealed : Stmt := topS 24
theorem sc__law_sealed : FnScope ["octets", "check", "found", "place"] ["octets"] (defScope st__law_sealed) := ⟨rfl, rfl, rfl, by decide +kernel, rfl, by decide +kernel, by decide +kernel⟩
abbrev st__law_integer : Stmt := topS 22
theorem sc__law_integer : FnScope ["number", "found"] ["number"] (defScope st__law_integer) := ⟨rfl, rfl, rfl, by decide +kernel, rfl, by decide +kernel, by decide +kernel⟩
abbrev st__law_alike : Stmt := topS 21
theorem sc__law_alike : FnScope ["found", "due", "pairs", "at", "one", "other"] ["found", "due"] (defScope st__law_alike) := ⟨rfl, rfl, rfl, by decide +kernel, rfl, by decide +kernel, by decide +kernel⟩
abbrev st_check_of : Stmt := topS 14
theorem sc_check_of : FnScope ["octets", "found", "octet"] ["octets"] (defScope st_check_of) := ⟨rfl, rfl, rfl, by decide +kernel, rfl, by decide +kernel, by decide +kernel⟩
abbrev st_sealed : Stmt := topS 15
theorem sc_sealed : FnScope ["octets", "check"] ["octets"] (defScope st_sealed) := ⟨rfl, rfl, rfl, by decide +kernel, rfl, by decide +kernel, by decide +kernel⟩
abbrev st_is_sealed : Stmt := topS 16
theorem sc_is_sealed : FnScope ["octets"] ["octets"] (defScope st_is_sealed) := ⟨rfl, rfl, rfl, by decide +kernel, rfl, by decide +kernel, by decide +kernel⟩
abbrev st_bits_of : Stmt := topS 12
theorem sc_bits_of : FnScope ["octet", "at"] ["octet"] (defScope st_bits_of) := ⟨rfl, rfl, rfl, by decide +kernel, rfl, by decide +kernel, by decide +kernel⟩
abbrev st_read_integer : Stmt := topS 13
theorem sc_read_integer : FnScope ["octets", "place", "at", "octet"] ["octets", "place"] (defScope st_read_integer) := ⟨rfl, rfl, rfl, by decide +kernel, rfl, by decide +kernel, by decide +kernel⟩
abbrev st_integer_octets : Stmt := topS 11
theorem sc_integer_octets : FnScope ["number", "found"] ["number"] (defScope st_integer_octets) := ⟨rfl, rfl, rfl, by decide +kernel, rfl, by decide +kernel, by decide +kernel⟩
abbrev st_law : Stmt := topS 26
theorem sc_law : FnScope ["script", "bag", "turn", "number", "row", "ahead", "found", "long", "octets", "whole", "at", "many", "other", "place", "one"] ["script"] (defScope st_law) := ⟨rfl, rfl, rfl, by decide +kernel, rfl, by decide +kernel, by decide +kernel⟩
structure Tx (P : Program) (K : PySem.W.Frag) (mg : Str → Option Value) where
  a__law_bag : Addr
  d__law_bag : FuncData
  f__law_bag : Fun K "_law_bag" "_law_bag" st__law_bag a__law_bag d__law_bag
  m__law_bag : mg "_law_bag" = some (.ref a__law_bag)
  b__law_bag : Binds K d__law_bag ["script"] []
  a__law_take : Addr
  d__law_take : FuncData
  f__law_take : Fun K "_law_take" "_law_take" st__law_take a__law_take d__law_take
  m__law_take : mg "_law_take" = some (.ref a__law_take)
  b__law_take : Binds K d__law_take ["bag", "many"] []
  a__law_some : Addr
  d__law_some : FuncData
  f__law_some : Fun K "_law_some" "_law_some" st__law_some a__law_some d__law_some
  m__law_some : mg "_law_some" = some (.ref a__law_some)
  b__law_some : Binds K d__law_some ["bag", "things"] []
  a__law_octets : Addr
  d__law_octets : FuncData
  f__law_octets : Fun K "_law_octets" "_law_octets" st__law_octets a__law_octets d__law_octets
  m__law_octets : mg "_law_octets" = some (.ref a__law_octets)
  b__law_octets : Binds K d__law_octets ["deed"] []
  a__law_check : Addr
  d__law_check : FuncData
  f__law_check : Fun K "_law_check" "_law_check" st__law_check a__law_check d__law_check
  m__law_check : mg "_law_check" = some (.ref a__law_check)
  b__law_check : Binds K d__law_check ["octets"] []
  a__law_sealed : Addr
  d__law_sealed : FuncData
  f__law_sealed : Fun K "_law_sealed" "_law_sealed" st__law_sealed a__law_sealed d__law_sealed
  m__law_sealed : mg "_law_sealed" = some (.ref a__law_sealed)
  b__law_sealed : Binds K d__law_sealed ["octets"] []
  a__law_integer : Addr
  d__law_integer : FuncData
  f__law_integer : Fun K "_law_integer" "_law_integer" st__law_integer a__law_integer d__law_integer
  m__law_integer : mg "_law_integer" = some (.ref a__law_integer)
  b__law_integer : Binds K d__law_integer ["number"] []
  a__law_alike : Addr
  d__law_alike : FuncData
  f__law_alike : Fun K "_law_alike" "_law_alike" st__law_alike a__law_alike d__law_alike
  m__law_alike : mg "_law_alike" = some (.ref a__law_alike)
  b__law_alike : Binds K d__law_alike ["found", "due"] []
  a_check_of : Addr
  d_check_of : FuncData
  f_check_of : Fun K "check_of" "check_of" st_check_of a_check_of d_check_of
  m_check_of : mg "check_of" = some (.ref a_check_of)
  b_check_of : Binds K d_check_of ["octets"] []
  a_sealed : Addr
  d_sealed : FuncData
  f_sealed : Fun K "sealed" "sealed" st_sealed a_sealed d_sealed
  m_sealed : mg "sealed" = some (.ref a_sealed)
  b_sealed : Binds K d_sealed ["octets"] []
  a_is_sealed : Addr
  d_is_sealed : FuncData
  f_is_sealed : Fun K "is_sealed" "is_sealed" st_is_sealed a_is_sealed d_is_sealed
  m_is_sealed : mg "is_sealed" = some (.ref a_is_sealed)
  b_is_sealed : Binds K d_is_sealed ["octets"] []
  a_bits_of : Addr
  d_bits_of : FuncData
  f_bits_of : Fun K "bits_of" "bits_of" st_bits_of a_bits_of d_bits_of
  m_bits_of : mg "bits_of" = some (.ref a_bits_of)
  b_bits_of : Binds K d_bits_of ["octet"] []
  a_read_integer : Addr
  d_read_integer : FuncData
  f_read_integer : Fun K "read_integer" "read_integer" st_read_integer a_read_integer d_read_integer
  m_read_integer : mg "read_integer" = some (.ref a_read_integer)
  b_read_integer : Binds K d_read_integer ["octets", "place"] []
  a_integer_octets : Addr
  d_integer_octets : FuncData
  f_integer_octets : Fun K "integer_octets" "integer_octets" st_integer_octets a_integer_octets d_integer_octets
  m_integer_octets : mg "integer_octets" = some (.ref a_integer_octets)
  b_integer_octets : Binds K d_integer_octets ["number"] []
  a_law : Addr
  d_law : FuncData
  f_law : Fun K "law" "law" st_law a_law d_law
  m_law : mg "law" = some (.ref a_law)
  b_law : Binds K d_law ["script"] []
  tc_law : Addr
  tp_law : Addr
  t_law : PySem.W.tabIn K "law" = some (tc_law, tp_law)
  q_law : d_law.code = .ref tc_law
  tu : TU K
  z_abs : mg "abs" = none
  z_bool : mg "bool" = none
  z_int : mg "int" = none
  z_isinstance : mg "isinstance" = none
  z_len : mg "len" = none
  z_list : mg "list" = none
  z_min : mg "min" = none
  z_range : mg "range" = none
  z_str : mg "str" = none
  z_tuple : mg "tuple" = none
  z_zip : mg "zip" = none
  c_CHECK : ∃ t, mg "CHECK" = some (.int 4 t)
  c_FACTOR : ∃ t, mg "FACTOR" = some (.int 257 t)
  c_GROUP : ∃ t, mg "GROUP" = some (.int 7 t)
  c_HALF : ∃ t, mg "HALF" = some (.int 128 t)
  c_MODULUS : ∃ t, mg "MODULUS" = some (.int 4294967291 t)
  c_MOST_GROUPS : ∃ t, mg "MOST_GROUPS" = some (.int 200 t)
  C_BadBytes : Addr
  m_BadBytes : mg "BadBytes" = some (.ref C_BadBytes)
  x_BadBytes : ∀ w base, ExK P w K mg base "BadBytes" C_BadBytes ["self", "index", "fault"] (Qx.sp2 K C_BadBytes "index" "fault")
  f_BadBytes : XfC K C_BadBytes
  n_BadBytes_index : PySem.W.findIn K (.ref C_BadBytes) "index" = some none
  n_BadBytes_fault : PySem.W.findIn K (.ref C_BadBytes) "fault" = some none
  s_BadBytes_BadBytes : PySem.W.exmOne K (.ref C_BadBytes) (.ref C_BadBytes) = some true
def mst_BadBytes : Stmt := methSt (topS 3) 0
section
variable {P : Program} {w : World} {K : PySem.W.Frag} {mg : Str → Option Value} {base : Heap}
theorem ok__law_bag (T : Tx P K mg) (B : TbB K base mg) : Fn P w K mg base 1 T.a__law_bag T.d__law_bag ["script"] F__law_bag := by
  refine fn_run2 (k := 0) (m := 2) (s := s__law_bag) E__law_bag (N := ["script", "cell"]) rfl T.f__law_bag sc__law_bag fun cdv A outer s0 H E hr hu => ?_
  exact (dss_one (ds_ret (de_lstM (da_cons de_int (da_cons de_int (da_cons de_int (da_cons (de_lc rfl sc__law_bag.nd (di_seq (de_sl (de_var 0) do_none (do_some de_int))) (blkOk_by (own := [("cell", 1)]) (by change blkC ["script", "cell"] (defScope st__law_bag) _ _ = true; decide +kernel)) (dgb_name 1 (fun _ _ _ _ _ => pg_name (i := 1) sc__law_bag.nd rfl (Or.inl rfl))) (fun _ _ _ _ _ => dts_nil) (fun _ _ _ _ _ => (de_abs T.z_abs (da_cons (de_var 1) da_nil)))) da_nil)))))))
theorem ok__law_take (T : Tx P K mg) (B : TbB K base mg) : Fn P w K mg base 1 T.a__law_take T.d__law_take ["bag", "many"] F__law_take := by
  refine fn_run2 (k := 0) (m := 7) (s := s__law_take) E__law_take (N := ["bag", "many", "cell", "stirred", "value", "begin", "second"]) rfl T.f__law_take sc__law_take fun cdv A outer s0 H E hr hu => ?_
  exact (dss_cons (ds_if (dt_eq hu (de_ix (de_var 0) de_int) de_int) (dss_cons (ds_set 2 sc__law_take.nd (de_ix (de_add (de_sl (de_ix (de_var 0) de_int) (do_some (de_ix (de_var 0) de_int)) do_none) (de_lst (da_cons de_int da_nil))) de_int))
    (dss_cons (ds_augIx iop_add sim_int0 (de_var 0) de_int de_int)
    (dss_cons (ds_if (dt_ge hu (de_var 2) (de_pow de_int de_int)) (dss_one (ds_setIx (de_var 2) (de_var 0) de_int)) dss_nil)
    (dss_cons (ds_set 3 sc__law_take.nd (de_add (de_add (de_mul (de_ix (de_var 0) de_int) de_int) (de_mod (de_toint T.z_int (da_cons (de_var 2) da_nil)) de_int)) (de_mul de_int (de_ix (de_var 0) de_int))))
    (dss_one (ds_setIx (de_mod (de_toint T.z_int (da_cons (de_var 3) da_nil)) de_int) (de_var 0) de_int)))))) dss_nil)
    (dss_cons (ds_if (dt_gt hu (de_ix (de_var 0) de_int) de_int) (dss_cons (ds_set 4 sc__law_take.nd (de_mod (de_toint T.z_int (da_cons (de_ix (de_var 0) de_int) da_nil)) (de_var 1)))
    (dss_cons (ds_setIx (de_div (de_toint T.z_int (da_cons (de_ix (de_var 0) de_int) da_nil)) (de_var 1)) (de_var 0) de_int)
    (dss_one (ds_ret (de_var 4))))) dss_nil)
    (dss_cons (ds_set 5 sc__law_take.nd (de_mod (de_toint T.z_int (da_cons (de_mul (de_add (de_ix (de_var 0) de_int) de_int) de_int) da_nil)) de_int))
    (dss_cons (ds_set 6 sc__law_take.nd (de_mod (de_toint T.z_int (da_cons (de_mul (de_mod (de_toint T.z_int (da_cons (de_mul (de_var 5) (de_var 5)) da_nil)) de_int) de_int) da_nil)) de_int))
    (dss_one (ds_ret (de_mod (de_toint T.z_int (da_cons (de_div (de_var 6) de_int) da_nil)) (de_var 1))))))))
theorem ok__law_some (T : Tx P K mg) (B : TbB K base mg) : Fn P w K mg base 2 T.a__law_some T.d__law_some ["bag", "things"] F__law_some := by
  refine fn_run2 (k := 1) (m := 2) (s := s__law_some) E__law_some (N := ["bag", "things"]) rfl T.f__law_some sc__law_some fun cdv A outer s0 H E hr hu => ?_
  exact (dss_one (ds_ret (de_ix (de_var 1) (de_callB 0 cxD_takes (ok__law_take T B) (hr.mono (by decide)) T.m__law_take T.f__law_take.kp T.b__law_take (da_cons (de_var 0) (da_cons (de_len T.z_len (da_cons (de_var 1) da_nil)) da_nil))))))
theorem ok__law_check (T : Tx P K mg) (B : TbB K base mg) : Fn P w K mg base 1 T.a__law_check T.d__law_check ["octets"] F__law_check := by
  refine fn_run2 (k := 0) (m := 3) (s := s__law_check) E__law_check (N := ["octets", "found", "octet"]) rfl T.f__law_check sc__law_check fun cdv A outer s0 H E hr hu => ?_
  exact (dss_cons (ds_set 1 sc__law_check.nd de_int)
    (dss_cons (ds_for cxD_pass rfl (di_seq (de_var 0)) (dg_name 2 sc__law_check.nd) (dss_one (ds_set 1 sc__law_check.nd (de_mod (de_toint T.z_int (da_cons (de_add (de_add (de_mul (de_var 1) de_int) (de_var 2)) de_int) da_nil)) de_int))))
    (dss_one (ds_ret (de_var 1)))))
theorem ok__law_sealed (T : Tx P K mg) (B : TbB K base mg) : Fn P w K mg base 2 T.a__law_sealed T.d__law_sealed ["octets"] F__law_sealed := by
  refine fn_run2 (k := 1) (m := 4) (s := s__law_sealed) E__law_sealed (N := ["octets", "check", "found", "place"]) rfl T.f__law_sealed sc__law_sealed fun cdv A outer s0 H E hr hu => ?_
  exact (dss_cons (ds_par 1 2 rfl sc__law_sealed.nd (da_cons (de_callP cxD_takes (ok__law_check T B) (hr.mono (by decide)) T.m__law_check T.f__law_check.kp T.b__law_check (da_cons (de_var 0) da_nil)) (da_cons (de_lstM da_nil) da_nil)))
    (dss_cons (ds_for cxD_pass rfl (di_range1 T.z_range (da_cons de_int da_nil)) (dg_name 3 sc__law_sealed.nd) (dss_cons (ds_expr (de_append (de_var 2) (da_cons (de_mod (de_toint T.z_int (da_cons (de_var 1) da_nil)) de_int) da_nil)))
    (dss_one (ds_set 1 sc__law_sealed.nd (de_div (de_toint T.z_int (da_cons (de_var 1) da_nil)) de_int)))))
    (dss_one (ds_ret (de_add (de_tuple T.z_tuple (da_cons (de_var 0) da_nil)) (de_tuple T.z_tuple (da_cons (de_rev (de_var 2)) da_nil)))))))
theorem ok__law_integer (T : Tx P K mg) (B : TbB K base mg) : Fn P w K mg base 1 T.a__law_integer T.d__law_integer ["number"] F__law_integer := by
  refine fn_run2 (k := 0) (m := 2) (s := s__law_integer) E__law_integer (N := ["number", "found"]) rfl T.f__law_integer sc__law_integer fun cdv A outer s0 H E hr hu => ?_
  exact (dss_cons (ds_set 1 sc__law_integer.nd (de_lstM da_nil))
    (dss_cons (ds_while cxD_pass (dt_gt hu (de_var 0) de_int) (dss_cons (ds_expr (de_append (de_var 1) (da_cons (de_add de_int (de_mod (de_toint T.z_int (da_cons (de_var 0) da_nil)) de_int)) da_nil)))
    (dss_one (ds_set 0 sc__law_integer.nd (de_div (de_toint T.z_int (da_cons (de_var 0) da_nil)) de_int)))))
    (dss_one (ds_ret (de_tuple T.z_tuple (da_cons (de_add (de_var 1) (de_lst (da_cons (de_var 0) da_nil))) da_nil))))))
theorem ok__law_alike (T : Tx P K mg) (B : TbB K base mg) : Fn P w K mg base 1 T.a__law_alike T.d__law_alike ["found", "due"] F__law_alike := by
  refine fn_run2 (k := 0) (m := 6) (s := s__law_alike) E__law_alike (N := ["found", "due", "pairs", "at", "one", "other"]) rfl T.f__law_alike sc__law_alike fun cdv A outer s0 H E hr hu => ?_
  exact (dss_cons (ds_par 2 3 rfl sc__law_alike.nd (da_cons (de_lstM (da_cons (de_tup (da_cons (de_var 0) (da_cons (de_var 1) da_nil))) da_nil)) (da_cons de_int da_nil)))
    (dss_cons (ds_while cxD_pass (dt_lt hu (de_var 3) (de_len T.z_len (da_cons (de_var 2) da_nil))) (dss_cons (ds_asg (de_ix (de_var 2) (de_var 3)) (dg_tup rfl (dgs_cons (dg_name 4 sc__law_alike.nd) (dgs_cons (dg_name 5 sc__law_alike.nd) dgs_nil))))
    (dss_cons (ds_aug 3 sc__law_alike.nd iop_add sim_int0 de_int)
    (dss_cons (ds_if (dt_w (dw_or (dt_ne hu (de_isi1 T.z_isinstance T.z_bool (by decide +kernel) (de_var 4)) (de_isi1 T.z_isinstance T.z_bool (by decide +kernel) (de_var 5))) (dw_or1 (dt_ne hu (de_isi1 T.z_isinstance T.z_str (by decide +kernel) (de_var 4)) (de_isi1 T.z_isinstance T.z_str (by decide +kernel) (de_var 5)))))) (dss_one (ds_ret de_bl)) dss_nil)
    (dss_cons (ds_if (dt_ne hu (de_isi2 T.z_isinstance T.z_tuple T.z_list (by decide +kernel) (by decide +kernel) (de_var 4)) (de_isi2 T.z_isinstance T.z_tuple T.z_list (by decide +kernel) (by decide +kernel) (de_var 5))) (dss_one (ds_ret de_bl)) dss_nil)
    (dss_one (ds_if (dt_val (de_isi2 T.z_isinstance T.z_tuple T.z_list (by decide +kernel) (by decide +kernel) (de_var 4))) (dss_cons (ds_if (dt_w (dw_or (dt_ne hu (de_isi1 T.z_isinstance T.z_tuple (by decide +kernel) (de_var 4)) (de_isi1 T.z_isinstance T.z_tuple (by decide +kernel) (de_var 5))) (dw_or1 (dt_ne hu (de_len T.z_len (da_cons (de_var 4) da_nil)) (de_len T.z_len (da_cons (de_var 5) da_nil)))))) (dss_one (ds_ret de_bl)) dss_nil)
    (dss_one (ds_expr (de_extend (de_var 2) (da_cons (de_lzip T.z_list T.z_zip rfl (da_cons (de_var 4) (da_cons (de_var 5) da_nil))) da_nil))))) (dss_one (ds_if (dt_ne hu (de_var 4) (de_var 5)) (dss_one (ds_ret de_bl)) dss_nil)))))))))
    (dss_one (ds_ret de_bl))))
theorem ok_check_of (T : Tx P K mg) (B : TbB K base mg) : Fn P w K mg base 1 T.a_check_of T.d_check_of ["octets"] F_check_of := by
  refine fn_run2 (k := 0) (m := 3) (s := s_check_of) E_check_of (N := ["octets", "found", "octet"]) rfl T.f_check_of sc_check_of fun cdv A outer s0 H E hr hu => ?_
  exact (dss_cons (ds_set 1 sc_check_of.nd de_int)
    (dss_cons (ds_for cxD_pass rfl (di_seq (de_var 0)) (dg_name 2 sc_check_of.nd) (dss_one (ds_set 1 sc_check_of.nd (de_mod (de_add (de_add (de_mul (de_var 1) (de_gint T.c_FACTOR)) (de_var 2)) de_int) (de_gint T.c_MODULUS)))))
    (dss_one (ds_ret (de_var 1)))))
theorem ok_sealed (T : Tx P K mg) (B : TbB K base mg) : Fn P w K mg base 2 T.a_sealed T.d_sealed ["octets"] F_sealed := by
  refine fn_run2 (k := 1) (m := 2) (s := s_sealed) E_sealed (N := ["octets", "check"]) rfl T.f_sealed sc_sealed fun cdv A outer s0 H E hr hu => ?_
  exact (dss_cons (ds_set 1 sc_sealed.nd (de_callP cxD_takes (ok_check_of T B) (hr.mono (by decide)) T.m_check_of T.f_check_of.kp T.b_check_of (da_cons (de_var 0) da_nil)))
    (dss_one (ds_ret (de_tup (da_star (de_var 0) (da_cons (de_shr (de_var 1) de_int) (da_cons (de_bitand (de_shr (de_var 1) de_int) de_int) (da_cons (de_bitand (de_shr (de_var 1) de_int) de_int) (da_cons (de_bitand (de_var 1) de_int) da_nil)))))))))
theorem ok_is_sealed (T : Tx P K mg) (B : TbB K base mg) : Fn P w K mg base 3 T.a_is_sealed T.d_is_sealed ["octets"] F_is_sealed := by
  refine fn_run2 (k := 2) (m := 1) (s := s_is_sealed) E_is_sealed (N := ["octets"]) rfl T.f_is_sealed sc_is_sealed fun cdv A outer s0 H E hr hu => ?_
  exact (dss_one (ds_ret (de_and (de_ge hu (de_len T.z_len (da_cons (de_var 0) da_nil)) (de_gint T.c_CHECK)) (de_one (de_eq hu (de_callP cxD_takes (ok_sealed T B) (hr.mono (by decide)) T.m_sealed T.f_sealed.kp T.b_sealed (da_cons (de_sl (de_var 0) do_none (do_some (de_sub (de_len T.z_len (da_cons (de_var 0) da_nil)) (de_gint T.c_CHECK)))) da_nil)) (de_tuple T.z_tuple (da_cons (de_var 0) da_nil)))))))
theorem ok_bits_of (T : Tx P K mg) (B : TbB K base mg) : Fn P w K mg base 1 T.a_bits_of T.d_bits_of ["octet"] F_bits_of := by
  refine fn_run2 (k := 0) (m := 2) (s := s_bits_of) E_bits_of (N := ["octet", "at"]) rfl T.f_bits_of sc_bits_of fun cdv A outer s0 H E hr hu => ?_
  exact (dss_one (ds_ret (de_join de_str (de_lc rfl sc_bits_of.nd (di_range1 T.z_range (da_cons (de_gint T.c_GROUP) da_nil)) (blkOk_by (own := [("at", 1)]) (by change blkC ["octet", "at"] (defScope st_bits_of) _ _ = true; decide +kernel)) (dgb_name 1 (fun _ _ _ _ _ => pg_name (i := 1) sc_bits_of.nd rfl (Or.inl rfl))) (fun _ _ _ _ _ => dts_nil) (fun _ _ _ _ _ => (de_ifx (dt_tr (de_bitand (de_var 0) (de_shr (de_div (de_gint T.c_HALF) de_int) (de_var 1)))) de_str de_str))))))
theorem ok_read_integer (T : Tx P K mg) (B : TbB K base mg) : Fn P w K mg base 4 T.a_read_integer T.d_read_integer ["octets", "place"] F_read_integer := by
  refine fn_run2 (k := 3) (m := 4) (s := s_read_integer) E_read_integer (N := ["octets", "place", "at", "octet"]) rfl T.f_read_integer sc_read_integer fun cdv A outer s0 H E hr hu => ?_
  exact (dss_cons (ds_set 2 sc_read_integer.nd (de_var 1))
    (dss_cons (ds_while cxD_pass (dt_w (dw_and (dt_lt hu (de_var 2) (de_len T.z_len (da_cons (de_var 0) da_nil))) (dw_and1 (dt_ge hu (de_ix (de_var 0) (de_var 2)) (de_gint T.c_HALF))))) (dss_one (ds_aug 2 sc_read_integer.nd iop_add sim_int0 de_int)))
    (dss_cons (ds_if (dt_w (dw_or (dt_eq hu (de_var 2) (de_len T.z_len (da_cons (de_var 0) da_nil))) (dw_or (dt_ge hu (de_sub (de_var 2) (de_var 1)) (de_gint T.c_MOST_GROUPS)) (dw_or1 (dt_w (dw_and (dt_eq hu (de_ix (de_var 0) (de_var 2)) de_int) (dw_and1 (dt_gt hu (de_var 2) (de_var 1))))))))) (dss_one (ds_raise2 rfl cxD_takes (T.x_BadBytes _ _) (hr.mono (by decide)) (da_cons (de_var 1) (da_cons de_str da_nil)))) dss_nil)
    (dss_one (ds_ret (de_tup (da_cons (de_int2 T.z_int (da_cons (de_join de_str (de_lc rfl sc_read_integer.nd (di_seq (de_rev (de_sl (de_var 0) (do_some (de_var 1)) (do_some (de_add (de_var 2) de_int))))) (blkOk_by (own := [("octet", 3)]) (by change blkC ["octets", "place", "at", "octet"] (defScope st_read_integer) _ _ = true; decide +kernel)) (dgb_name 3 (fun _ _ _ _ _ => pg_name (i := 3) sc_read_integer.nd rfl (Or.inl rfl))) (fun _ _ _ _ _ => dts_nil) (fun _ _ _ _ _ => (de_callP takes0 (ok_bits_of T B) (hr.mono (by decide)) T.m_bits_of T.f_bits_of.kp T.b_bits_of (da_cons (de_var 3) da_nil))))) (da_cons de_int da_nil))) (da_cons (de_add (de_var 2) de_int) da_nil))))))))
theorem ok_integer_octets (T : Tx P K mg) (B : TbB K base mg) : Fn P w K mg base 1 T.a_integer_octets T.d_integer_octets ["number"] F_integer_octets := by
  refine fn_run2 (k := 0) (m := 2) (s := s_integer_octets) E_integer_octets (N := ["number", "found"]) rfl T.f_integer_octets sc_integer_octets fun cdv A outer s0 H E hr hu => ?_
  exact (dss_cons (ds_set 1 sc_integer_octets.nd (de_lstM da_nil))
    (dss_cons (ds_while cxD_pass (dt_ge hu (de_var 0) (de_gint T.c_HALF)) (dss_cons (ds_expr (de_append (de_var 1) (da_cons (de_add (de_gint T.c_HALF) (de_bitand (de_var 0) (de_sub (de_gint T.c_HALF) de_int))) da_nil)))
    (dss_one (ds_aug 0 sc_integer_octets.nd iop_shr (sim_int fun _ _ h => by simpa using h) (de_gint T.c_GROUP)))))
    (dss_one (ds_ret (de_tup (da_star (de_var 1) (da_cons (de_var 0) da_nil)))))))
theorem ok_law (T : Tx P K mg) (B : TbB K base mg) : Fn P w K mg base 7 T.a_law T.d_law ["script"] F_law := by
  refine fn_runL (k := 6) (m := 15) (s := s_law) E_law (N := ["script", "bag", "turn", "number", "row", "ahead", "found", "long", "octets", "whole", "at", "many", "other", "place", "one"]) rfl T.f_law sc_law fun cdv A outer s0 H E hr hu hc => ?_
  exact (dss_cons (ds_set 1 sc_law.nd (de_callN cxD_takes (ok__law_bag T B) (hr.mono (by decide)) T.m__law_bag T.f__law_bag.kp T.b__law_bag (da_cons (de_var 0) da_nil)))
    (dss_cons (ds_for cxD_pass rfl (di_range1 T.z_range (da_cons de_int da_nil)) (dg_name 2 sc_law.nd) (dss_cons (ds_set 3 sc_law.nd (de_callB 0 cxD_takes (ok__law_some T B) (hr.mono (by decide)) T.m__law_some T.f__law_some.kp T.b__law_some (da_cons (de_var 1) (da_cons (de_lst (da_cons (de_callB 0 cxD_takes (ok__law_take T B) (hr.mono (by decide)) T.m__law_take T.f__law_take.kp T.b__law_take (da_cons (de_var 1) (da_cons de_int da_nil))) (da_cons (de_callB 0 cxD_takes (ok__law_take T B) (hr.mono (by decide)) T.m__law_take T.f__law_take.kp T.b__law_take (da_cons (de_var 1) (da_cons (de_pow de_int de_int) da_nil))) (da_cons de_int (da_cons de_int (da_cons de_int (da_cons (de_add (de_pow de_int de_int) (de_callB 0 cxD_takes (ok__law_take T B) (hr.mono (by decide)) T.m__law_take T.f__law_take.kp T.b__law_take (da_cons (de_var 1) (da_cons (de_pow de_int de_int) da_nil)))) da_nil))))))) da_nil))))
    (dss_cons (ds_asg (de_tup (da_cons (de_callP cxD_takes (ok__law_integer T B) (hr.mono (by decide)) T.m__law_integer T.f__law_integer.kp T.b__law_integer (da_cons (de_var 3) da_nil)) (da_cons (de_tuple T.z_tuple (da_cons (de_lc rfl sc_law.nd (di_range1 T.z_range (da_cons (de_callB 0 cxD_takes (ok__law_take T B) (hr.mono (by decide)) T.m__law_take T.f__law_take.kp T.b__law_take (da_cons (de_var 1) (da_cons de_int da_nil))) da_nil)) (blkOk_by (own := [("one", 14)]) (by change blkC ["script", "bag", "turn", "number", "row", "ahead", "found", "long", "octets", "whole", "at", "many", "other", "place", "one"] (defScope st_law) _ _ = true; decide +kernel)) (dgb_name 14 (fun _ _ _ _ _ => pg_name (i := 14) sc_law.nd rfl (Or.inl rfl))) (fun _ _ _ _ _ => dts_nil) (fun _ _ _ _ _ => (de_callB 0 takes0 (ok__law_take T B) (hr.mono (by decide)) T.m__law_take T.f__law_take.kp T.b__law_take (da_cons (de_var 1) (da_cons de_int da_nil))))) da_nil)) da_nil))) (dg_tup rfl (dgs_cons (dg_name 4 sc_law.nd) (dgs_cons (dg_name 5 sc_law.nd) dgs_nil))))
    (dss_cons (ds_if (dt_not (dt_val (de_callP cxD_takes (ok__law_alike T B) (hr.mono (by decide)) T.m__law_alike T.f__law_alike.kp T.b__law_alike (da_cons (de_lst (da_cons (de_callP cxD_takes (ok_integer_octets T B) (hr.mono (by decide)) T.m_integer_octets T.f_integer_octets.kp T.b_integer_octets (da_cons (de_var 3) da_nil)) (da_cons (de_callP cxD_takes (ok_read_integer T B) (hr.mono (by decide)) T.m_read_integer T.f_read_integer.kp T.b_read_integer (da_cons (de_add (de_add (de_var 5) (de_var 4)) (de_tup (da_cons de_int da_nil))) (da_cons (de_len T.z_len (da_cons (de_var 5) da_nil)) da_nil))) da_nil))) (da_cons (de_lst (da_cons (de_var 4) (da_cons (de_tup (da_cons (de_var 3) (da_cons (de_add (de_len T.z_len (da_cons (de_var 5) da_nil)) (de_len T.z_len (da_cons (de_var 4) da_nil))) da_nil))) da_nil))) da_nil))))) (dss_one (ds_ret de_bl)) dss_nil)
    (dss_cons (ds_set 6 sc_law.nd (de_lamT T.f__law_octets T.m__law_octets T.b__law_octets sc__law_octets rfl rfl (fun cdv2 s2 H2 => ⟨_, (.consAs (i := 1) ⟨rfl, by decide, .inl (T.m_BadBytes)⟩ rfl rfl (ms_cons T.m_BadBytes T.s_BadBytes_BadBytes ms_nil) (dsh_ret (deh_tup (dah_cons (deh_of fun _ _ _ => de_str) (dah_cons (deh_field (j := 1) ⟨_, T.m_BadBytes, T.f_BadBytes, T.n_BadBytes_index⟩) (dah_cons (deh_field (j := 1) ⟨_, T.m_BadBytes, T.f_BadBytes, T.n_BadBytes_fault⟩) dah_nil))))) .nil)⟩) (by decide +kernel) (by decide) T.t_law (hc.symm.trans T.q_law) B T.tu (k := 4) (hr.mono (by decide)) (fun A2 outer2 s2 H2 E2 f2 c2 hr => have hu := rm_lam (outer := outer2) (H := H2) (E := E2) hr; (de_callP lam_takes (ok_read_integer T B) (hr.mono (by decide)) T.m_read_integer T.f_read_integer.kp T.b_read_integer (da_cons (de_add (de_var 5) (de_sl (de_var 4) do_none (do_some (de_neg de_int)))) (da_cons (de_len T.z_len (da_cons (de_var 5) da_nil)) da_nil)))) (LamX.lamS_by (show LamX.lamSB (defScope st_law) _ = true by decide +kernel))))
    (dss_cons (ds_if (dt_ne hu (de_var 6) (de_tup (da_cons de_str (da_cons (de_len T.z_len (da_cons (de_var 5) da_nil)) (da_cons de_str da_nil))))) (dss_one (ds_ret de_bl)) dss_nil)
    (dss_cons (ds_if (dt_gt hu (de_len T.z_len (da_cons (de_var 4) da_nil)) de_int) (dss_cons (ds_set 7 sc_law.nd (de_add (de_sl (de_var 4) do_none (do_some (de_neg de_int))) (de_tup (da_cons (de_add (de_toint T.z_int (da_cons (de_ix (de_var 4) (de_neg de_int)) da_nil)) de_int) (da_cons de_int da_nil)))))
    (dss_cons (ds_set 6 sc_law.nd (de_lamT T.f__law_octets T.m__law_octets T.b__law_octets sc__law_octets rfl rfl (fun cdv2 s2 H2 => ⟨_, (.consAs (i := 1) ⟨rfl, by decide, .inl (T.m_BadBytes)⟩ rfl rfl (ms_cons T.m_BadBytes T.s_BadBytes_BadBytes ms_nil) (dsh_ret (deh_tup (dah_cons (deh_of fun _ _ _ => de_str) (dah_cons (deh_field (j := 1) ⟨_, T.m_BadBytes, T.f_BadBytes, T.n_BadBytes_index⟩) (dah_cons (deh_field (j := 1) ⟨_, T.m_BadBytes, T.f_BadBytes, T.n_BadBytes_fault⟩) dah_nil))))) .nil)⟩) (by decide +kernel) (by decide) T.t_law (hc.symm.trans T.q_law) B T.tu (k := 4) (hr.mono (by decide)) (fun A2 outer2 s2 H2 E2 f2 c2 hr => have hu := rm_lam (outer := outer2) (H := H2) (E := E2) hr; (de_callP lam_takes (ok_read_integer T B) (hr.mono (by decide)) T.m_read_integer T.f_read_integer.kp T.b_read_integer (da_cons (de_add (de_var 5) (de_var 7)) (da_cons (de_len T.z_len (da_cons (de_var 5) da_nil)) da_nil)))) (LamX.lamS_by (show LamX.lamSB (defScope st_law) _ = true by decide +kernel))))
    (dss_one (ds_if (dt_ne hu (de_var 6) (de_tup (da_cons de_str (da_cons (de_len T.z_len (da_cons (de_var 5) da_nil)) (da_cons de_str da_nil))))) (dss_one (ds_ret de_bl)) dss_nil)))) dss_nil)
    (dss_cons (ds_set 8 sc_law.nd (de_tuple T.z_tuple (da_cons (de_lc rfl sc_law.nd (di_range1 T.z_range (da_cons (de_callB 0 cxD_takes (ok__law_take T B) (hr.mono (by decide)) T.m__law_take T.f__law_take.kp T.b__law_take (da_cons (de_var 1) (da_cons de_int da_nil))) da_nil)) (blkOk_by (own := [("one", 14)]) (by change blkC ["script", "bag", "turn", "number", "row", "ahead", "found", "long", "octets", "whole", "at", "many", "other", "place", "one"] (defScope st_law) _ _ = true; decide +kernel)) (dgb_name 14 (fun _ _ _ _ _ => pg_name (i := 14) sc_law.nd rfl (Or.inl rfl))) (fun _ _ _ _ _ => dts_nil) (fun _ _ _ _ _ => (de_callB 0 takes0 (ok__law_take T B) (hr.mono (by decide)) T.m__law_take T.f__law_take.kp T.b__law_take (da_cons (de_var 1) (da_cons de_int da_nil))))) da_nil)))
    (dss_cons (ds_set 9 sc_law.nd (de_callP cxD_takes (ok__law_sealed T B) (hr.mono (by decide)) T.m__law_sealed T.f__law_sealed.kp T.b__law_sealed (da_cons (de_var 8) da_nil)))
    (dss_cons (ds_if (dt_not (dt_val (de_callP cxD_takes (ok__law_alike T B) (hr.mono (by decide)) T.m__law_alike T.f__law_alike.kp T.b__law_alike (da_cons (de_lst (da_cons (de_callP cxD_takes (ok_check_of T B) (hr.mono (by decide)) T.m_check_of T.f_check_of.kp T.b_check_of (da_cons (de_var 8) da_nil)) (da_cons (de_callP cxD_takes (ok_sealed T B) (hr.mono (by decide)) T.m_sealed T.f_sealed.kp T.b_sealed (da_cons (de_var 8) da_nil)) (da_cons (de_callP cxD_takes (ok_is_sealed T B) (hr.mono (by decide)) T.m_is_sealed T.f_is_sealed.kp T.b_is_sealed (da_cons (de_var 9) da_nil)) da_nil)))) (da_cons (de_lst (da_cons (de_callP cxD_takes (ok__law_check T B) (hr.mono (by decide)) T.m__law_check T.f__law_check.kp T.b__law_check (da_cons (de_var 8) da_nil)) (da_cons (de_var 9) (da_cons de_bl da_nil)))) da_nil))))) (dss_one (ds_ret de_bl)) dss_nil)
    (dss_cons (ds_par 10 11 rfl sc_law.nd (da_cons (de_callB 0 cxD_takes (ok__law_take T B) (hr.mono (by decide)) T.m__law_take T.f__law_take.kp T.b__law_take (da_cons (de_var 1) (da_cons (de_len T.z_len (da_cons (de_var 9) da_nil)) da_nil))) (da_cons (de_add de_int (de_callB 0 cxD_takes (ok__law_take T B) (hr.mono (by decide)) T.m__law_take T.f__law_take.kp T.b__law_take (da_cons (de_var 1) (da_cons de_int da_nil)))) da_nil)))
    (dss_cons (ds_set 12 sc_law.nd (de_listM T.z_list (da_cons (de_var 9) da_nil)))
    (dss_cons (ds_for cxD_pass rfl (di_range2 T.z_range (da_cons (de_var 10) (da_cons (de_min2 rfl T.z_min (da_cons (de_add (de_var 10) (de_var 11)) (da_cons (de_len T.z_len (da_cons (de_var 9) da_nil)) da_nil))) da_nil))) (dg_name 13 sc_law.nd) (dss_one (ds_setIx (de_mod (de_toint T.z_int (da_cons (de_add (de_add (de_ix (de_var 12) (de_var 13)) de_int) (de_callB 0 cxD_takes (ok__law_take T B) (hr.mono (by decide)) T.m__law_take T.f__law_take.kp T.b__law_take (da_cons (de_var 1) (da_cons de_int da_nil)))) da_nil)) de_int) (de_var 12) (de_var 13))))
    (dss_one (ds_if (dt_notB (de_callP cxD_takes (ok_is_sealed T B) (hr.mono (by decide)) T.m_is_sealed T.f_is_sealed.kp T.b_is_sealed (da_cons (de_tuple T.z_tuple (da_cons (de_var 12) da_nil)) da_nil)) de_bl) (dss_one (ds_ret de_bl)) dss_nil)))))))))))))))
    (dss_one (ds_ret de_bl))))
end
theorem all_mk {l : PySem.W.OpenLaw} {w : World} {K : PySem.W.Frag} {h : Heap} {mg : Str → Option Value} {fa : Addr} (X : K.In h) (G : h.Ns mainGlobals mg) (hfa : mg "law" = some (.ref fa))
    {f0 : Addr} {od0 an0 : Option Addr} {sl0 : Array (Option Value)} {oc0 kV0 dc0 pm0 cd0 ct0 : Value}
    (a0 : PySem.W.nsIn K mainGlobals "_law_bag" = some (some (.ref f0))) (l0 : K.lookup f0 = some ⟨oc0, od0, .func (PySem.W.fnOf "_law_bag" "_law_bag" (defArgs st__law_bag) (defBody st__law_bag) (defScope st__law_bag) .none kV0 dc0 pm0 an0 cd0 ct0), sl0⟩) (c0 : PySem.W.codeIn K cd0 "_law_bag" = true) (k0 : PySem.W.keepIn K (.ref f0) = true)
    {f1 : Addr} {od1 an1 : Option Addr} {sl1 : Array (Option Value)} {oc1 kV1 dc1 pm1 cd1 ct1 : Value}
    (a1 : PySem.W.nsIn K mainGlobals "_law_take" = some (some (.ref f1))) (l1 : K.lookup f1 = some ⟨oc1, od1, .func (PySem.W.fnOf "_law_take" "_law_take" (defArgs st__law_take) (defBody st__law_take) (defScope st__law_take) .none kV1 dc1 pm1 an1 cd1 ct1), sl1⟩) (c1 : PySem.W.codeIn K cd1 "_law_take" = true) (k1 : PySem.W.keepIn K (.ref f1) = true)
    {f2 : Addr} {od2 an2 : Option Addr} {sl2 : Array (Option Value)} {oc2 kV2 dc2 pm2 cd2 ct2 : Value}
    (a2 : PySem.W.nsIn K mainGlobals "_law_some" = some (some (.ref f2))) (l2 : K.lookup f2 = some ⟨oc2, od2, .func (PySem.W.fnOf "_law_some" "_law_some" (defArgs st__law_some) (defBody st__law_some) (defScope st__law_some) .none kV2 dc2 pm2 an2 cd2 ct2), sl2⟩) (c2 : PySem.W.codeIn K cd2 "_law_some" = true) (k2 : PySem.W.keepIn K (.ref f2) = true)
    {f3 : Addr} {od3 an3 : Option Addr} {sl3 : Array (Option Value)} {oc3 kV3 dc3 pm3 cd3 ct3 : Value}
    (a3 : PySem.W.nsIn K mainGlobals "_law_octets" = some (some (.ref f3))) (l3 : K.lookup f3 = some ⟨oc3, od3, .func (PySem.W.fnOf "_law_octets" "_law_octets" (defArgs st__law_octets) (defBody st__law_octets) (defScope st__law_octets) .none kV3 dc3 pm3 an3 cd3 ct3), sl3⟩) (c3 : PySem.W.codeIn K cd3 "_law_octets" = true) (k3 : PySem.W.keepIn K (.ref f3) = true)
    {f4 : Addr} {od4 an4 : Option Addr} {sl4 : Array (Option Value)} {oc4 kV4 dc4 pm4 cd4 ct4 : Value}
    (a4 : PySem.W.nsIn K mainGlobals "_law_check" = some (some (.ref f4))) (l4 : K.lookup f4 = some ⟨oc4, od4, .func (PySem.W.fnOf "_law_check" "_law_check" (defArgs st__law_check) (defBody st__law_check) (defScope st__law_check) .none kV4 dc4 pm4 an4 cd4 ct4), sl4⟩) (c4 : PySem.W.codeIn K cd4 "_law_check" = true) (k4 : PySem.W.keepIn K (.ref f4) = true)
    {f5 : Addr} {od5 an5 : Option Addr} {sl5 : Array (Option Value)} {oc5 kV5 dc5 pm5 cd5 ct5 : Value}
    (a5 : PySem.W.nsIn K mainGlobals "_law_sealed" = some (some (.ref f5))) (l5 : K.lookup f5 = some ⟨oc5, od5, .func (PySem.W.fnOf "_law_sealed" "_law_sealed" (defArgs st__law_sealed) (defBody st__law_sealed) (defScope st__law_sealed) .none kV5 dc5 pm5 an5 cd5 ct5), sl5⟩) (c5 : PySem.W.codeIn K cd5 "_law_sealed" = true) (k5 : PySem.W.keepIn K (.ref f5) = true)
    {f6 : Addr} {od6 an6 : Option Addr} {sl6 : Array (Option Value)} {oc6 kV6 dc6 pm6 cd6 ct6 : Value}
    (a6 : PySem.W.nsIn K mainGlobals "_law_integer" = some (some (.ref f6))) (l6 : K.lookup f6 = some ⟨oc6, od6, .func (PySem.W.fnOf "_law_integer" "_law_integer" (defArgs st__law_integer) (defBody st__law_integer) (defScope st__law_integer) .none kV6 dc6 pm6 an6 cd6 ct6), sl6⟩) (c6 : PySem.W.codeIn K cd6 "_law_integer" = true) (k6 : PySem.W.keepIn K (.ref f6) = true)
    {f7 : Addr} {od7 an7 : Option Addr} {sl7 : Array (Option Value)} {oc7 kV7 dc7 pm7 cd7 ct7 : Value}
    (a7 : PySem.W.nsIn K mainGlobals "_law_alike" = some (some (.ref f7))) (l7 : K.lookup f7 = some ⟨oc7, od7, .func (PySem.W.fnOf "_law_alike" "_law_alike" (defArgs st__law_alike) (defBody st__law_alike) (defScope st__law_alike) .none kV7 dc7 pm7 an7 cd7 ct7), sl7⟩) (c7 : PySem.W.codeIn K cd7 "_law_alike" = true) (k7 : PySem.W.keepIn K (.ref f7) = true)
    {f8 : Addr} {od8 an8 : Option Addr} {sl8 : Array (Option Value)} {oc8 kV8 dc8 pm8 cd8 ct8 : Value}
    (a8 : PySem.W.nsIn K mainGlobals "check_of" = some (some (.ref f8))) (l8 : K.lookup f8 = some ⟨oc8, od8, .func (PySem.W.fnOf "check_of" "check_of" (defArgs st_check_of) (defBody st_check_of) (defScope st_check_of) .none kV8 dc8 pm8 an8 cd8 ct8), sl8⟩) (c8 : PySem.W.codeIn K cd8 "check_of" = true) (k8 : PySem.W.keepIn K (.ref f8) = true)
    {f9 : Addr} {od9 an9 : Option Addr} {sl9 : Array (Option Value)} {oc9 kV9 dc9 pm9 cd9 ct9 : Value}
    (a9 : PySem.W.nsIn K mainGlobals "sealed" = some (some (.ref f9))) (l9 : K.lookup f9 = some ⟨oc9, od9, .func (PySem.W.fnOf "sealed" "sealed" (defArgs st_sealed) (defBody st_sealed) (defScope st_sealed) .none kV9 dc9 pm9 an9 cd9 ct9), sl9⟩) (c9 : PySem.W.codeIn K cd9 "sealed" = true) (k9 : PySem.W.keepIn K (.ref f9) = true)
    {f10 : Addr} {od10 an10 : Option Addr} {sl10 : Array (Option Value)} {oc10 kV10 dc10 pm10 cd10 ct10 : Value}
    (a10 : PySem.W.nsIn K mainGlobals "is_sealed" = some (some (.ref f10))) (l10 : K.lookup f10 = some ⟨oc10, od10, .func (PySem.W.fnOf "is_sealed" "is_sealed" (defArgs st_is_sealed) (defBody st_is_sealed) (defScope st_is_sealed) .none kV10 dc10 pm10 an10 cd10 ct10), sl10⟩) (c10 : PySem.W.codeIn K cd10 "is_sealed" = true) (k10 : PySem.W.keepIn K (.ref f10) = true)
    {f11 : Addr} {od11 an11 : Option Addr} {sl11 : Array (Option Value)} {oc11 kV11 dc11 pm11 cd11 ct11 : Value}
    (a11 : PySem.W.nsIn K mainGlobals "bits_of" = some (some (.ref f11))) (l11 : K.lookup f11 = some ⟨oc11, od11, .func (PySem.W.fnOf "bits_of" "bits_of" (defArgs st_bits_of) (defBody st_bits_of) (defScope st_bits_of) .none kV11 dc11 pm11 an11 cd11 ct11), sl11⟩) (c11 : PySem.W.codeIn K cd11 "bits_of" = true) (k11 : PySem.W.keepIn K (.ref f11) = true)
    {f12 : Addr} {od12 an12 : Option Addr} {sl12 : Array (Option Value)} {oc12 kV12 dc12 pm12 cd12 ct12 : Value}
    (a12 : PySem.W.nsIn K mainGlobals "read_integer" = some (some (.ref f12))) (l12 : K.lookup f12 = some ⟨oc12, od12, .func (PySem.W.fnOf "read_integer" "read_integer" (defArgs st_read_integer) (defBody st_read_integer) (defScope st_read_integer) .none kV12 dc12 pm12 an12 cd12 ct12), sl12⟩) (c12 : PySem.W.codeIn K cd12 "read_integer" = true) (k12 : PySem.W.keepIn K (.ref f12) = true)
    {f13 : Addr} {od13 an13 : Option Addr} {sl13 : Array (Option Value)} {oc13 kV13 dc13 pm13 cd13 ct13 : Value}
    (a13 : PySem.W.nsIn K mainGlobals "integer_octets" = some (some (.ref f13))) (l13 : K.lookup f13 = some ⟨oc13, od13, .func (PySem.W.fnOf "integer_octets" "integer_octets" (defArgs st_integer_octets) (defBody st_integer_octets) (defScope st_integer_octets) .none kV13 dc13 pm13 an13 cd13 ct13), sl13⟩) (c13 : PySem.W.codeIn K cd13 "integer_octets" = true) (k13 : PySem.W.keepIn K (.ref f13) = true)
    {tc_law tp_law : Addr} {toc_law : Value} {tod_law : Option Addr} {tvs_law : Array Value} {tsl_law : Array (Option Value)}
    {f14 : Addr} {od14 an14 : Option Addr} {sl14 : Array (Option Value)} {oc14 kV14 dc14 pm14 ct14 : Value}
    (a14 : PySem.W.nsIn K mainGlobals "law" = some (some (.ref f14))) (l14 : K.lookup f14 = some ⟨oc14, od14, .func (PySem.W.fnOf "law" "law" (defArgs st_law) (defBody st_law) (defScope st_law) .none kV14 dc14 pm14 an14 (.ref tc_law) ct14), sl14⟩) (c14 : PySem.W.codeIn K (.ref tc_law) "law" = true) (k14 : PySem.W.keepIn K (.ref f14) = true)
    (t1_law : K.lookup tc_law = some ⟨toc_law, tod_law, .fields tvs_law, tsl_law⟩) (t2_law : tvs_law[11]? = some (.ref tp_law))
    (z_abs : PySem.W.nsIn K mainGlobals "abs" = some none)
    (z_bool : PySem.W.nsIn K mainGlobals "bool" = some none)
    (z_int : PySem.W.nsIn K mainGlobals "int" = some none)
    (z_isinstance : PySem.W.nsIn K mainGlobals "isinstance" = some none)
    (z_len : PySem.W.nsIn K mainGlobals "len" = some none)
    (z_list : PySem.W.nsIn K mainGlobals "list" = some none)
    (z_min : PySem.W.nsIn K mainGlobals "min" = some none)
    (z_range : PySem.W.nsIn K mainGlobals "range" = some none)
    (z_str : PySem.W.nsIn K mainGlobals "str" = some none)
    (z_tuple : PySem.W.nsIn K mainGlobals "tuple" = some none)
    (z_zip : PySem.W.nsIn K mainGlobals "zip" = some none)
    {t_CHECK : Tok} (c_CHECK : PySem.W.nsIn K mainGlobals "CHECK" = some (some (.int 4 t_CHECK)))
    {t_FACTOR : Tok} (c_FACTOR : PySem.W.nsIn K mainGlobals "FACTOR" = some (some (.int 257 t_FACTOR)))
    {t_GROUP : Tok} (c_GROUP : PySem.W.nsIn K mainGlobals "GROUP" = some (some (.int 7 t_GROUP)))
    {t_HALF : Tok} (c_HALF : PySem.W.nsIn K mainGlobals "HALF" = some (some (.int 128 t_HALF)))
    {t_MODULUS : Tok} (c_MODULUS : PySem.W.nsIn K mainGlobals "MODULUS" = some (some (.int 4294967291 t_MODULUS)))
    {t_MOST_GROUPS : Tok} (c_MOST_GROUPS : PySem.W.nsIn K mainGlobals "MOST_GROUPS" = some (some (.int 200 t_MOST_GROUPS)))
    {C_BadBytes fI_BadBytes cda_BadBytes cc_BadBytes N_BadBytes : Addr} {nm_BadBytes qn_BadBytes qual_BadBytes : Str} {bs_BadBytes bm_BadBytes sub_BadBytes : List Value} {sn_BadBytes : List Str} {ab_BadBytes : Bool} {col_BadBytes : Option Bool} {dd_BadBytes od_BadBytes an_BadBytes cdd_BadBytes ncd_BadBytes : Option Addr} {k0_BadBytes k1_BadBytes k2_BadBytes k3_BadBytes k5_BadBytes : Option Value}
    {oc_BadBytes kV_BadBytes doc_BadBytes pm_BadBytes ct_BadBytes ccl_BadBytes ncl_BadBytes : Value} {osl_BadBytes ccs_BadBytes ncs_BadBytes : Array (Option Value)} {vs_BadBytes : Array Value} {file_BadBytes : Str} {tf_BadBytes : Tok}
    (xa_BadBytes : PySem.W.nsIn K mainGlobals "BadBytes" = some (some (.ref C_BadBytes))) (xb_BadBytes : K.lookup C_BadBytes = some (excClassObj nm_BadBytes qn_BadBytes C_BadBytes N_BadBytes bs_BadBytes bm_BadBytes true sn_BadBytes sub_BadBytes ab_BadBytes col_BadBytes dd_BadBytes k0_BadBytes k1_BadBytes k2_BadBytes k3_BadBytes k5_BadBytes "ValueError.__new__")) (xc_BadBytes : PySem.W.findIn K (.ref C_BadBytes) "__setattr__" = some (some (.builtin "object.__setattr__")))
    (xd_BadBytes : PySem.W.subIn K (.ref C_BadBytes) (.type "BaseException") = some true) (xe_BadBytes : PySem.W.typeIn K (.ref C_BadBytes) = some (.type "type")) (xf_BadBytes : PySem.W.keepIn K (.ref C_BadBytes) = true) (xg_BadBytes : PySem.W.findIn K (.ref C_BadBytes) "__init__" = some (some (.ref fI_BadBytes))) (xh_BadBytes : PySem.W.typeIn K (.ref fI_BadBytes) = some (.type "function"))
    (xi_BadBytes : K.lookup fI_BadBytes = some ⟨oc_BadBytes, od_BadBytes, .func (PySem.W.fnX "__init__" qual_BadBytes (defArgs mst_BadBytes) (defBody mst_BadBytes) (defScope mst_BadBytes) [(("__class__" : Str), cc_BadBytes)] .none kV_BadBytes doc_BadBytes pm_BadBytes an_BadBytes (.ref cda_BadBytes) ct_BadBytes), osl_BadBytes⟩) (xj_BadBytes : PySem.W.codeIn K (.ref cda_BadBytes) qual_BadBytes = true)
    (xk_BadBytes : K.lookup cda_BadBytes = some ⟨ccl_BadBytes, cdd_BadBytes, .fields vs_BadBytes, ccs_BadBytes⟩) (xl_BadBytes : K.lookup cc_BadBytes = some ⟨ncl_BadBytes, ncd_BadBytes, .cell (some (.ref C_BadBytes)), ncs_BadBytes⟩) (xm_BadBytes : PySem.W.ks_superIn K C_BadBytes C_BadBytes "__init__" = some (some (.builtin "ValueError.__init__"))) (xn_BadBytes : PySem.W.nsIn K cStatics "thirdparty.any" = some none)
    (xo_BadBytes : PySem.W.subIn K (.ref C_BadBytes) (.type "ValueError") = some true) (xp_BadBytes : PySem.W.mroIn K C_BadBytes (.ref C_BadBytes) = some true) (xq_BadBytes : PySem.W.findIn K (.ref C_BadBytes) "__getattribute__" = some (some (.builtin "BaseException.__getattribute__"))) (xr_BadBytes : PySem.W.findIn K (.ref C_BadBytes) "__getattr__" = some none) (xs_BadBytes : PySem.W.hasDictIn K C_BadBytes = true) (xt_BadBytes : PySem.W.nsIn K mainGlobals "super" = some none)
    (ya_BadBytes : PySem.HandSPX.refsVE bm_BadBytes = true) (yb_BadBytes : vs_BadBytes[2]? = some (.str file_BadBytes tf_BadBytes)) (yc_BadBytes : ((l.prog.main.file : Str) == file_BadBytes) = true) (yd_BadBytes : (l.prog.main.scope.names.lookup ("super" : Str)).isSome = false)
    (xn_BadBytes_index : PySem.W.findIn K (.ref C_BadBytes) "index" = some none)
    (xn_BadBytes_fault : PySem.W.findIn K (.ref C_BadBytes) "fault" = some none)
    (xs_BadBytes_BadBytes : PySem.W.subIn K (.ref C_BadBytes) (.ref C_BadBytes) = some true)
    : ∃ fd : FuncData, (∀ (s : Shared) (v : Value), BindsTo s fd ⟨[v], []⟩ [("script", v)]) ∧ ∀ base : Heap, K.In base → base.Ns mainGlobals mg → TbB K base mg → Fn l.prog w K mg base 7 fa fd ["script"] F_law := by
  have e := hfa.symm.trans (PySem.W.mg_of X G a14)
  cases e
  have F0 := fun_mk (st := st__law_bag) l0 c0 k0
  have b0 := F0.binds (ps := ["script"]) fun _ _ _ _ _ _ us hl => match us, hl with | [_], _ => rfl
  have F1 := fun_mk (st := st__law_take) l1 c1 k1
  have b1 := F1.binds (ps := ["bag", "many"]) fun _ _ _ _ _ _ us hl => match us, hl with | [_, _], _ => rfl
  have F2 := fun_mk (st := st__law_some) l2 c2 k2
  have b2 := F2.binds (ps := ["bag", "things"]) fun _ _ _ _ _ _ us hl => match us, hl with | [_, _], _ => rfl
  have F3 := fun_mk (st := st__law_octets) l3 c3 k3
  have b3 := F3.binds (ps := ["deed"]) fun _ _ _ _ _ _ us hl => match us, hl with | [_], _ => rfl
  have F4 := fun_mk (st := st__law_check) l4 c4 k4
  have b4 := F4.binds (ps := ["octets"]) fun _ _ _ _ _ _ us hl => match us, hl with | [_], _ => rfl
  have F5 := fun_mk (st := st__law_sealed) l5 c5 k5
  have b5 := F5.binds (ps := ["octets"]) fun _ _ _ _ _ _ us hl => match us, hl with | [_], _ => rfl
  have F6 := fun_mk (st := st__law_integer) l6 c6 k6
  have b6 := F6.binds (ps := ["number"]) fun _ _ _ _ _ _ us hl => match us, hl with | [_], _ => rfl
  have F7 := fun_mk (st := st__law_alike) l7 c7 k7
  have b7 := F7.binds (ps := ["found", "due"]) fun _ _ _ _ _ _ us hl => match us, hl with | [_, _], _ => rfl
  have F8 := fun_mk (st := st_check_of) l8 c8 k8
  have b8 := F8.binds (ps := ["octets"]) fun _ _ _ _ _ _ us hl => match us, hl with | [_], _ => rfl
  have F9 := fun_mk (st := st_sealed) l9 c9 k9
  have b9 := F9.binds (ps := ["octets"]) fun _ _ _ _ _ _ us hl => match us, hl with | [_], _ => rfl
  have F10 := fun_mk (st := st_is_sealed) l10 c10 k10
  have b10 := F10.binds (ps := ["octets"]) fun _ _ _ _ _ _ us hl => match us, hl with | [_], _ => rfl
  have F11 := fun_mk (st := st_bits_of) l11 c11 k11
  have b11 := F11.binds (ps := ["octet"]) fun _ _ _ _ _ _ us hl => match us, hl with | [_], _ => rfl
  have F12 := fun_mk (st := st_read_integer) l12 c12 k12
  have b12 := F12.binds (ps := ["octets", "place"]) fun _ _ _ _ _ _ us hl => match us, hl with | [_, _], _ => rfl
  have F13 := fun_mk (st := st_integer_octets) l13 c13 k13
  have b13 := F13.binds (ps := ["number"]) fun _ _ _ _ _ _ us hl => match us, hl with | [_], _ => rfl
  have F14 := fun_mk (st := st_law) l14 c14 k14
  have b14 := F14.binds (ps := ["script"]) fun _ _ _ _ _ _ us hl => match us, hl with | [_], _ => rfl
  have TT_BadBytes : OexC K C_BadBytes := oex_mk xb_BadBytes ya_BadBytes xc_BadBytes xd_BadBytes xe_BadBytes xf_BadBytes
  have FI_BadBytes := inif_mk (P := l.prog) (st := mst_BadBytes) xi_BadBytes xj_BadBytes xk_BadBytes yb_BadBytes yc_BadBytes xl_BadBytes (PySem.W.mg_none_of X G xt_BadBytes) yd_BadBytes xm_BadBytes xn_BadBytes xo_BadBytes xp_BadBytes
  have XX_BadBytes := exk2 (cls := "BadBytes") (a := "index") (b := "fault") (f := "index") (g := "fault") (PySem.W.mg_of X G xa_BadBytes) TT_BadBytes FI_BadBytes xg_BadBytes xh_BadBytes (Binds.all fun us hl => match us, hl with | [_, _, _], _ => rfl) (show NdefX.nscB ["self", "index", "fault", "__class__"] ["self", "index", "fault"] ["__class__"] (defScope mst_BadBytes) = true by decide +kernel) rfl rfl rfl rfl rfl rfl rfl rfl xn_BadBytes_index xn_BadBytes_fault (fun _ => ⟨_, by rfl⟩)
  let T0 : Tx l.prog K mg := {
    a__law_bag := _, d__law_bag := _, f__law_bag := F0, m__law_bag := PySem.W.mg_of X G a0, b__law_bag := b0,
    a__law_take := _, d__law_take := _, f__law_take := F1, m__law_take := PySem.W.mg_of X G a1, b__law_take := b1,
    a__law_some := _, d__law_some := _, f__law_some := F2, m__law_some := PySem.W.mg_of X G a2, b__law_some := b2,
    a__law_octets := _, d__law_octets := _, f__law_octets := F3, m__law_octets := PySem.W.mg_of X G a3, b__law_octets := b3,
    a__law_check := _, d__law_check := _, f__law_check := F4, m__law_check := PySem.W.mg_of X G a4, b__law_check := b4,
    a__law_sealed := _, d__law_sealed := _, f__law_sealed := F5, m__law_sealed := PySem.W.mg_of X G a5, b__law_sealed := b5,
    a__law_integer := _, d__law_integer := _, f__law_integer := F6, m__law_integer := PySem.W.mg_of X G a6, b__law_integer := b6,
    a__law_alike := _, d__law_alike := _, f__law_alike := F7, m__law_alike := PySem.W.mg_of X G a7, b__law_alike := b7,
    a_check_of := _, d_check_of := _, f_check_of := F8, m_check_of := PySem.W.mg_of X G a8, b_check_of := b8,
    a_sealed := _, d_sealed := _, f_sealed := F9, m_sealed := PySem.W.mg_of X G a9, b_sealed := b9,
    a_is_sealed := _, d_is_sealed := _, f_is_sealed := F10, m_is_sealed := PySem.W.mg_of X G a10, b_is_sealed := b10,
    a_bits_of := _, d_bits_of := _, f_bits_of := F11, m_bits_of := PySem.W.mg_of X G a11, b_bits_of := b11,
    a_read_integer := _, d_read_integer := _, f_read_integer := F12, m_read_integer := PySem.W.mg_of X G a12, b_read_integer := b12,
    a_integer_octets := _, d_integer_octets := _, f_integer_octets := F13, m_integer_octets := PySem.W.mg_of X G a13, b_integer_octets := b13,
    a_law := _, d_law := _, f_law := F14, m_law := PySem.W.mg_of X G a14, b_law := b14,
    tc_law := _, tp_law := _, t_law := tab_mk a14 l14 rfl t1_law t2_law, q_law := rfl,
    tu := tu_one rfl,
    z_abs := PySem.W.mg_none_of X G z_abs,
    z_bool := PySem.W.mg_none_of X G z_bool,
    z_int := PySem.W.mg_none_of X G z_int,
    z_isinstance := PySem.W.mg_none_of X G z_isinstance,
    z_len := PySem.W.mg_none_of X G z_len,
    z_list := PySem.W.mg_none_of X G z_list,
    z_min := PySem.W.mg_none_of X G z_min,
    z_range := PySem.W.mg_none_of X G z_range,
    z_str := PySem.W.mg_none_of X G z_str,
    z_tuple := PySem.W.mg_none_of X G z_tuple,
    z_zip := PySem.W.mg_none_of X G z_zip,
    c_CHECK := ⟨_, PySem.W.mg_of X G c_CHECK⟩,
    c_FACTOR := ⟨_, PySem.W.mg_of X G c_FACTOR⟩,
    c_GROUP := ⟨_, PySem.W.mg_of X G c_GROUP⟩,
    c_HALF := ⟨_, PySem.W.mg_of X G c_HALF⟩,
    c_MODULUS := ⟨_, PySem.W.mg_of X G c_MODULUS⟩,
    c_MOST_GROUPS := ⟨_, PySem.W.mg_of X G c_MOST_GROUPS⟩,
    C_BadBytes := _, m_BadBytes := PySem.W.mg_of X G xa_BadBytes, x_BadBytes := XX_BadBytes, f_BadBytes := ⟨xq_BadBytes, xr_BadBytes, xd_BadBytes, xs_BadBytes⟩,
    n_BadBytes_index := xn_BadBytes_index,
    n_BadBytes_fault := xn_BadBytes_fault,
    s_BadBytes_BadBytes := PySem.W.exm_ref xd_BadBytes xs_BadBytes xe_BadBytes xs_BadBytes_BadBytes }
  exact ⟨_, fun s v => .of_eq rfl, fun base _ _ B => ok_law T0 B⟩
end Lw

set_option Elab.async false
set_option maxRecDepth 100000
open PySem PySem.W PyProof.Rows
set_option maxRecDepth 100000 in
set_option maxHeartbeats 0 in
theorem PySem.Challenge.cw_counterkeep_k38_octets_of_integers_and_c_holds : PySem.Challenge.rw_counterkeep_k38_octets_of_integers_and_c.Holds := by
  w_on; o_law; k_head; (case hw => w_witness2)
  k_fill
  refine Qd.law_walk (l := PySem.Challenge.rw_counterkeep_k38_octets_of_integers_and_c) (k := 7) (FL := Lw.F_law) rfl rfl ⟨rfl, by decide, by decide⟩ (fun w h Y => PySem.W.km_in_of Y) Lw.law_true (by decide +kernel) (fun _ P => by rfl) ?F
  case F =>
    intro w mg fa h KX G hmg
    refine' Lw.all_mk KX G hmg ?a0 ?l0 ?c0 ?k0 ?a1 ?l1 ?c1 ?k1 ?a2 ?l2 ?c2 ?k2 ?a3 ?l3 ?c3 ?k3 ?a4 ?l4 ?c4 ?k4 ?a5 ?l5 ?c5 ?k5 ?a6 ?l6 ?c6 ?k6 ?a7 ?l7 ?c7 ?k7 ?a8 ?l8 ?c8 ?k8 ?a9 ?l9 ?c9 ?k9 ?a10 ?l10 ?c10 ?k10 ?a11 ?l11 ?c11 ?k11 ?a12 ?l12 ?c12 ?k12 ?a13 ?l13 ?c13 ?k13 ?a14 ?l14 ?c14 ?k14 ?t1_law ?t2_law ?z_abs ?z_bool ?z_int ?z_isinstance ?z_len ?z_list ?z_min ?z_range ?z_str ?z_tuple ?z_zip ?c_CHECK ?c_FACTOR ?c_GROUP ?c_HALF ?c_MODULUS ?c_MOST_GROUPS ?xa_BadBytes ?xb_BadBytes ?xc_BadBytes ?xd_BadBytes ?xe_BadBytes ?xf_BadBytes ?xg_BadBytes ?xh_BadBytes ?xi_BadBytes ?xj_BadBytes ?xk_BadBytes ?xl_BadBytes ?xm_BadBytes ?xn_BadBytes ?xo_BadBytes ?xp_BadBytes ?xq_BadBytes ?xr_BadBytes ?xs_BadBytes ?xt_BadBytes ?ya_BadBytes ?yb_BadBytes ?yc_BadBytes ?yd_BadBytes ?xn_BadBytes_index ?xn_BadBytes_fault ?xs_BadBytes_BadBytes
    (case a0 => k_is)
    (case l0 => k_is)
    (case c0 => k_is)
    (case k0 => k_is)
    (case a1 => k_is)
    (case l1 => k_is)
    (case c1 => k_is)
    (case k1 => k_is)
    (case a2 => k_is)
    (case l2 => k_is)
    (case c2 => k_is)
    (case k2 => k_is)
    (case a3 => k_is)
    (case l3 => k_is)
    (case c3 => k_is)
    (case k3 => k_is)
    (case a4 => k_is)
    (case l4 => k_is)
    (case c4 => k_is)
    (case k4 => k_is)
    (case a5 => k_is)
    (case l5 => k_is)
    (case c5 => k_is)
    (case k5 => k_is)
    (case a6 => k_is)
    (case l6 => k_is)
    (case c6 => k_is)
    (case k6 => k_is)
    (case a7 => k_is)
    (case l7 => k_is)
    (case c7 => k_is)
    (case k7 => k_is)
    (case a8 => k_is)
    (case l8 => k_is)
    (case c8 => k_is)
    (case k8 => k_is)
    (case a9 => k_is)
    (case l9 => k_is)
    (case c9 => k_is)
    (case k9 => k_is)
    (case a10 => k_is)
    (case l10 => k_is)
    (case c10 => k_is)
    (case k10 => k_is)
    (case a11 => k_is)
    (case l11 => k_is)
    (case c11 => k_is)
    (case k11 => k_is)
    (case a12 => k_is)
    (case l12 => k_is)
    (case c12 => k_is)
    (case k12 => k_is)
    (case a13 => k_is)
    (case l13 => k_is)
    (case c13 => k_is)
    (case k13 => k_is)
    (case a14 => k_is)
    (case l14 => k_is)
    (case c14 => k_is)
    (case k14 => k_is)
    (case t1_law => k_is)
    (case t2_law => rfl)
    (case z_abs => k_is)
    (case z_bool => k_is)
    (case z_int => k_is)
    (case z_isinstance => k_is)
    (case z_len => k_is)
    (case z_list => k_is)
    (case z_min => k_is)
    (case z_range => k_is)
    (case z_str => k_is)
    (case z_tuple => k_is)
    (case z_zip => k_is)
    (case c_CHECK => k_is)
    (case c_FACTOR => k_is)
    (case c_GROUP => k_is)
    (case c_HALF => k_is)
    (case c_MODULUS => k_is)
    (case c_MOST_GROUPS => k_is)
    (case xa_BadBytes => k_is)
    (case xb_BadBytes => k_is)
    (case xc_BadBytes => k_is)
    (case xd_BadBytes => k_is)
    (case xe_BadBytes => k_is)
    (case xf_BadBytes => k_is)
    (case xg_BadBytes => k_is)
    (case xh_BadBytes => k_is)
    (case xi_BadBytes => k_is)
    (case xj_BadBytes => k_is)
    (case xk_BadBytes => k_is)
    (case xl_BadBytes => k_is)
    (case xm_BadBytes => ks_is)
    (case xn_BadBytes => k_is)
    (case xo_BadBytes => k_is)
    (case xp_BadBytes => k_is)
    (case xq_BadBytes => k_is)
    (case xr_BadBytes => k_is)
    (case xs_BadBytes => k_is)
    (case xt_BadBytes => k_is)
    (case ya_BadBytes => first | rfl | decide +kernel)
    (case yb_BadBytes => first | rfl | decide +kernel)
    (case yc_BadBytes => first | rfl | decide +kernel)
    (case yd_BadBytes => first | rfl | decide +kernel)
    (case xn_BadBytes_index => k_is)
    (case xn_BadBytes_fault => k_is)
    (case xs_BadBytes_BadBytes => k_is)

